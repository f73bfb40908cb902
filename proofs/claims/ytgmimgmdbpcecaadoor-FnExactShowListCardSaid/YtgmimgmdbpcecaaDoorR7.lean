import Derived.Test.YtgmimgmdbpcecaaDoorR6
import Derived.Test.YtgmimgmdbpcecaaDoorI5
import Derived.Test.YtgmimgmdbpcecaaDoorAhY
import Derived.Lib.Join
namespace Go.Proofs.YtgmimgmdbpcecaaDoor
open Go Go.Ah
set_option linter.unusedSimpArgs false
set_option linter.unusedVariables false
set_option maxRecDepth 10000
set_option maxHeartbeats 4000000
/-! 36 (loop.example/g00066/impl.Clip).named: parameters 1, live [0], slots [0:c, 1:c] -/
def c36_0 : List SOper := [⟨some 1, .a (.box (.t 0)), none⟩, ⟨some 2, .q (.mv (.c (.string ⟨#[]⟩))), none⟩]
def c36_1 : List SOper := [⟨some 3, .q (.ldn 3 (.t 1)), none⟩, ⟨some 4, .e (.call 42 [(.t 3)]), none⟩]
def c36_2 : List SOper := [⟨some 2, .q (.mv (.c (.string ⟨#[66, 76]⟩))), none⟩]
def c36_3 : SCode := .seq (.region c36_2 [2]) .ret
def c36_4 : SCode := .cond (.t 4) c36_3 .skip
def c36_5 : SCode := .seq (.region c36_1 [1, 4]) c36_4
def c36_6 : List SOper := [⟨some 5, .q (.fa 0 (.t 1)), none⟩, ⟨some 6, .q (.ld (.t 5)), none⟩, ⟨some 7, .e (.call 43 [(.t 6), (.c (.int .i64 10))]), none⟩, ⟨some 8, .q (.bin .add (.c (.string ⟨#[82]⟩)) (.t 7)), none⟩, ⟨some 2, .q (.mv (.t 8)), none⟩]
def c36_7 : SCode := .seq (.region c36_6 [2]) .ret
def c36_8 : SCode := .seq c36_5 c36_7
def c36_9 : SCode := .seq (.region c36_0 [1]) c36_8
def c36 : SCode := c36_9
theorem w36 : type_of% (And.intro (uR Tryd.prog c36_0.eq_1) (And.intro (uR Tryd.prog c36_1.eq_1) (And.intro (uR Tryd.prog c36_2.eq_1) (And.intro (uC Tryd.prog c36_3.eq_1) (And.intro (uC Tryd.prog c36_4.eq_1) (And.intro (uC Tryd.prog c36_5.eq_1) (And.intro (uR Tryd.prog c36_6.eq_1) (And.intro (uC Tryd.prog c36_7.eq_1) (And.intro (uC Tryd.prog c36_8.eq_1) (And.intro (uC Tryd.prog c36_9.eq_1) (uC Tryd.prog c36.eq_1))))))))))) := (And.intro (uR Tryd.prog c36_0.eq_1) (And.intro (uR Tryd.prog c36_1.eq_1) (And.intro (uR Tryd.prog c36_2.eq_1) (And.intro (uC Tryd.prog c36_3.eq_1) (And.intro (uC Tryd.prog c36_4.eq_1) (And.intro (uC Tryd.prog c36_5.eq_1) (And.intro (uR Tryd.prog c36_6.eq_1) (And.intro (uC Tryd.prog c36_7.eq_1) (And.intro (uC Tryd.prog c36_8.eq_1) (And.intro (uC Tryd.prog c36_9.eq_1) (uC Tryd.prog c36.eq_1)))))))))))
def v36 : List RV := [.t 2]
theorem s36 : slimF Tryd.prog Tryd.f36 = some (c36.bare, v36) := by kernel_rfl
/-! 20 (loop.example/g00066/impl.Rate).lineOf: parameters 4, live [0, 1, 2, 3], slots [0:r, 1:k, 2:c, 3:at, 4:r, 5:k, 6:c, 7:at, 9:words, 10:_, 11:frame, 12:t] -/
def c20_0 : List SOper := [⟨some 4, .a (.box (.t 0)), none⟩, ⟨some 6, .a (.box (.t 2)), none⟩, ⟨some 8, .q (.mv (.c (.string ⟨#[]⟩))), none⟩]
def c20_1 : List DOper := [⟨0, ⟨some 13, .q (.mv (.t 1)), none⟩, [], []⟩, ⟨1, ⟨some 14, .q (.bin .add (.t 13) (.c (.int .i64 1))), none⟩, [], []⟩, ⟨3, ⟨some 16, .q (.ldn 3 (.t 6)), none⟩, [], []⟩, ⟨2, ⟨some 15, .e (.call 35 [(.t 14), (.c (.int .i64 3))]), none⟩, [], [3]⟩, ⟨4, ⟨some 17, .e (.call 36 [(.t 16)]), none⟩, [], []⟩, ⟨5, ⟨some 18, .a (.bsl 3 1 [(.string ⟨#[]⟩), (.string ⟨#[]⟩), (.string ⟨#[]⟩)] [(0, 1, (.t 15)), (1, 1, (.t 17)), (2, 1, (.c (.string ⟨#[67]⟩)))]), none⟩, [], []⟩, ⟨6, ⟨some 9, .q (.mv (.t 18)), none⟩, [], []⟩]
def c20_2 : List SOper := [⟨some 19, .q (.fa 1 (.t 6)), none⟩, ⟨some 20, .q (.ld (.t 19)), none⟩, ⟨some 21, .q (.fa 1 (.t 6)), none⟩, ⟨some 22, .q (.ld (.t 21)), none⟩, ⟨some 23, .q (.fa 2 (.t 6)), none⟩, ⟨some 24, .q (.ld (.t 23)), none⟩, ⟨some 25, .q (.bin .add (.t 22) (.t 24)), none⟩, ⟨some 26, .q (.mv (.t 3)), none⟩, ⟨some 27, .q (.mv (.t 3)), none⟩, ⟨some 28, .q (.fa 2 (.t 6)), none⟩, ⟨some 29, .q (.ld (.t 28)), none⟩, ⟨some 30, .q (.bin .add (.t 27) (.t 29)), none⟩, ⟨some 31, .a (.bsl 4 1 [(.int .i64 0), (.int .i64 0), (.int .i64 0), (.int .i64 0)] [(0, 1, (.t 20)), (1, 1, (.t 25)), (2, 1, (.t 26)), (3, 1, (.t 30))]), none⟩, ⟨some 32, .q (.len (.t 31)), none⟩, ⟨some 33, .q (.mv (.c (.int .i64 0))), none⟩]
def c20_3 : List SOper := [⟨some 34, .q (.bin .lss (.t 33) (.t 32)), none⟩]
def c20_4 : SCode := .cond (.t 34) .skip (.exit 0)
def c20_5 : List SOper := [⟨some 35, .q (.ia 1 (.t 31) (.t 33)), none⟩, ⟨some 36, .q (.ld (.t 35)), none⟩, ⟨some 11, .q (.mv (.t 36)), none⟩]
def c20_6 : List SOper := [⟨some 37, .q (.ldn 3 (.t 4)), none⟩, ⟨some 38, .q (.mv (.t 11)), none⟩, ⟨some 39, .e (.call 37 [(.t 37), (.t 38)]), none⟩, ⟨some 12, .q (.mv (.t 39)), none⟩]
def c20_7 : List SOper := [⟨some 40, .q (.mv (.t 12)), none⟩, ⟨some 41, .q (.bin .eql (.t 40) (.c (.string ⟨#[]⟩))), none⟩]
def c20_8 : List SOper := [⟨some 8, .q (.mv (.c (.string ⟨#[]⟩))), none⟩]
def c20_9 : SCode := .seq (.region c20_8 [8]) .ret
def c20_10 : SCode := .cond (.t 41) c20_9 .skip
def c20_11 : SCode := .seq (.region c20_7 [4, 9, 12, 31, 32, 33, 41]) c20_10
def c20_12 : List SOper := [⟨some 42, .q (.mv (.t 9)), none⟩, ⟨some 43, .q (.mv (.t 12)), none⟩, ⟨some 44, .a (.bsl 1 1 [(.string ⟨#[]⟩)] [(0, 1, (.t 43))]), none⟩, ⟨some 45, .e (.app 16 1 (.t 42) (.t 44)), none⟩, ⟨some 9, .q (.mv (.t 45)), none⟩]
def c20_13 : SCode := .seq c20_11 (.region c20_12 [4, 9, 31, 32, 33])
def c20_14 : SCode := .seq (.region c20_6 [4, 9, 12, 31, 32, 33]) c20_13
def c20_15 : SCode := .seq (.region c20_5 [4, 9, 11, 31, 32, 33]) c20_14
def c20_16 : SCode := .block 1 c20_15
def c20_17 : List SOper := [⟨some 46, .q (.bin .add (.t 33) (.c (.int .i64 1))), none⟩, ⟨some 33, .q (.mv (.t 46)), none⟩]
def c20_18 : SCode := .seq c20_16 (.region c20_17 [4, 9, 31, 32, 33])
def c20_19 : SCode := .seq c20_4 c20_18
def c20_20 : SCode := .seq (.region c20_3 [4, 9, 31, 32, 33, 34]) c20_19
def c20_21 : SCode := .loop c20_20
def c20_22 : SCode := .block 0 c20_21
def c20_23 : SCode := .seq (.region c20_2 [4, 9, 31, 32, 33]) c20_22
def c20_24 : List SOper := [⟨some 47, .q (.mv (.t 9)), none⟩, ⟨some 48, .e (.call 38 [(.t 47), (.c (.string ⟨#[32]⟩))]), none⟩, ⟨some 49, .q (.bin .add (.t 48) (.c (.string ⟨#[10]⟩))), none⟩, ⟨some 8, .q (.mv (.t 49)), none⟩]
def c20_25 : SCode := .seq (.region c20_24 [8]) .ret
def c20_26 : SCode := .seq c20_23 c20_25
def c20_27 : SCode := .seq (.dregion c20_1 [3, 4, 6, 9]) c20_26
def c20_28 : SCode := .seq (.region c20_0 [1, 3, 4, 6]) c20_27
def c20 : SCode := c20_28
theorem w20 : type_of% (And.intro (uR Tryd.prog c20_0.eq_1) (And.intro (uD Tryd.prog c20_1.eq_1) (And.intro (uR Tryd.prog c20_2.eq_1) (And.intro (uR Tryd.prog c20_3.eq_1) (And.intro (uC Tryd.prog c20_4.eq_1) (And.intro (uR Tryd.prog c20_5.eq_1) (And.intro (uR Tryd.prog c20_6.eq_1) (And.intro (uR Tryd.prog c20_7.eq_1) (And.intro (uR Tryd.prog c20_8.eq_1) (And.intro (uC Tryd.prog c20_9.eq_1) (And.intro (uC Tryd.prog c20_10.eq_1) (And.intro (uC Tryd.prog c20_11.eq_1) (And.intro (uR Tryd.prog c20_12.eq_1) (And.intro (uC Tryd.prog c20_13.eq_1) (And.intro (uC Tryd.prog c20_14.eq_1) (And.intro (uC Tryd.prog c20_15.eq_1) (And.intro (uC Tryd.prog c20_16.eq_1) (And.intro (uR Tryd.prog c20_17.eq_1) (And.intro (uC Tryd.prog c20_18.eq_1) (And.intro (uC Tryd.prog c20_19.eq_1) (And.intro (uC Tryd.prog c20_20.eq_1) (And.intro (uC Tryd.prog c20_21.eq_1) (And.intro (uC Tryd.prog c20_22.eq_1) (And.intro (uC Tryd.prog c20_23.eq_1) (And.intro (uR Tryd.prog c20_24.eq_1) (And.intro (uC Tryd.prog c20_25.eq_1) (And.intro (uC Tryd.prog c20_26.eq_1) (And.intro (uC Tryd.prog c20_27.eq_1) (And.intro (uC Tryd.prog c20_28.eq_1) (uC Tryd.prog c20.eq_1)))))))))))))))))))))))))))))) := (And.intro (uR Tryd.prog c20_0.eq_1) (And.intro (uD Tryd.prog c20_1.eq_1) (And.intro (uR Tryd.prog c20_2.eq_1) (And.intro (uR Tryd.prog c20_3.eq_1) (And.intro (uC Tryd.prog c20_4.eq_1) (And.intro (uR Tryd.prog c20_5.eq_1) (And.intro (uR Tryd.prog c20_6.eq_1) (And.intro (uR Tryd.prog c20_7.eq_1) (And.intro (uR Tryd.prog c20_8.eq_1) (And.intro (uC Tryd.prog c20_9.eq_1) (And.intro (uC Tryd.prog c20_10.eq_1) (And.intro (uC Tryd.prog c20_11.eq_1) (And.intro (uR Tryd.prog c20_12.eq_1) (And.intro (uC Tryd.prog c20_13.eq_1) (And.intro (uC Tryd.prog c20_14.eq_1) (And.intro (uC Tryd.prog c20_15.eq_1) (And.intro (uC Tryd.prog c20_16.eq_1) (And.intro (uR Tryd.prog c20_17.eq_1) (And.intro (uC Tryd.prog c20_18.eq_1) (And.intro (uC Tryd.prog c20_19.eq_1) (And.intro (uC Tryd.prog c20_20.eq_1) (And.intro (uC Tryd.prog c20_21.eq_1) (And.intro (uC Tryd.prog c20_22.eq_1) (And.intro (uC Tryd.prog c20_23.eq_1) (And.intro (uR Tryd.prog c20_24.eq_1) (And.intro (uC Tryd.prog c20_25.eq_1) (And.intro (uC Tryd.prog c20_26.eq_1) (And.intro (uC Tryd.prog c20_27.eq_1) (And.intro (uC Tryd.prog c20_28.eq_1) (uC Tryd.prog c20.eq_1))))))))))))))))))))))))))))))
def v20 : List RV := [.t 8]
theorem s20 : slimF Tryd.prog Tryd.f20 = some (c20.bare, v20) := by kernel_rfl

theorem joinStep_src {out : List Clip} {k : Clip} (ho : ∀ a ∈ out, 0 ≤ a.src ∧ a.src ≤ 500) (hk : 0 ≤ k.src ∧ k.src ≤ 500) : ∀ a ∈ joinStep out k, 0 ≤ a.src ∧ a.src ≤ 500 := by
  have h1 : ∀ a ∈ out ++ [k], 0 ≤ a.src ∧ a.src ≤ 500 := by
    intro a ha
    simp only [List.mem_append, List.mem_singleton] at ha
    rcases ha with ha | rfl
    · exact ho a ha
    · exact hk
  unfold joinStep; split
  · split
    · intro a ha
      rcases List.mem_or_eq_of_mem_set ha with ha | rfl
      · exact ho a ha
      · exact ho (out[out.length - 1]) (List.getElem_mem (by omega))
    · exact h1
  · exact h1
theorem join_src {l : List Clip} (hl : ∀ k ∈ l, 0 ≤ k.src ∧ k.src ≤ 500) : ∀ a ∈ join l, 0 ≤ a.src ∧ a.src ≤ 500 := by
  have : ∀ (l : List Clip), (∀ k ∈ l, 0 ≤ k.src ∧ k.src ≤ 500) → ∀ (out : List Clip), (∀ a ∈ out, 0 ≤ a.src ∧ a.src ≤ 500) → ∀ a ∈ l.foldl joinStep out, 0 ≤ a.src ∧ a.src ≤ 500 := by
    intro l; induction l with
    | nil => intro _ out ho; exact ho
    | cons k l ih => intro hl out ho; exact ih (fun k hk => hl k (by simp [hk])) _ (joinStep_src ho (hl k (by simp)))
  exact this l hl [] (by simp)
/-! ### Lines -/
def namedL (c : Clip) : List UInt8 := if c.src = 0 then [66, 76] else 82 :: digs c.src.toNat
def frames (c : Clip) (at' : Int) : List Int := [c.inn, IntKind.i64.wrap (c.inn + c.len), at', IntKind.i64.wrap (at' + c.len)]
def lineL (r : Rate) (k : Nat) (c : Clip) (at' : Int) : List UInt8 :=
  if timeL r c.inn = [] ∨ timeL r (IntKind.i64.wrap (c.inn + c.len)) = [] ∨ timeL r at' = [] ∨ timeL r (IntKind.i64.wrap (at' + c.len)) = [] then [] else
    padL 3 (digs (k + 1)) ++ [32] ++ namedL c ++ [32, 67, 32] ++ timeL r c.inn ++ [32] ++ timeL r (IntKind.i64.wrap (c.inn + c.len)) ++ [32] ++ timeL r at' ++ [32] ++ timeL r (IntKind.i64.wrap (at' + c.len)) ++ [10]
theorem timeL_len (r : Rate) (f : Int) : (timeL r f).length ≤ 100 := by
  unfold timeL
  split
  · rename_i h
    split
    · simp
    · have hn := told_bd r f.toNat h.1 (by omega)
      have q1 : toldN r f.toNat / baseN r ≤ toldN r f.toNat := Nat.div_le_self _ _
      have q2 : toldN r f.toNat % baseN r ≤ toldN r f.toNat := Nat.mod_le _ _
      unfold timeN
      generalize toldN r f.toNat / baseN r = s at *
      have l1 := padL_le (k := 2) (n := s / 3600) (by omega) (by omega)
      have l2 := padL_le (k := 2) (n := s / 60 % 60) (by omega) (by omega)
      have l3 := padL_le (k := 2) (n := s % 60) (by omega) (by omega)
      have l4 := padL_le (k := if 100 < baseN r then 3 else 2) (n := toldN r f.toNat % baseN r) (by split <;> omega) (by omega)
      simp only [List.length_append, List.length_cons, List.length_nil]
      omega
  · simp
theorem namedL_len (c : Clip) (hs : 0 ≤ c.src ∧ c.src ≤ 500) : (namedL c).length ≤ 20 := by
  unfold namedL
  split
  · simp
  · have := digs_len19 (n := c.src.toNat) (by omega); simp; omega
theorem lineL_len (r : Rate) (k : Nat) (c : Clip) (at' : Int) (hs : 0 ≤ c.src ∧ c.src ≤ 500) (hk : k ≤ 1000000) : (lineL r k c at').length ≤ 1000 := by
  unfold lineL
  split
  · simp
  · have l1 := padL_le (k := 3) (n := k + 1) (by omega) (by omega)
    have l2 := namedL_len c hs
    have l3 := timeL_len r c.inn
    have l4 := timeL_len r (IntKind.i64.wrap (c.inn + c.len))
    have l5 := timeL_len r at'
    have l6 := timeL_len r (IntKind.i64.wrap (at' + c.len))
    simp only [List.length_append, List.length_cons, List.length_nil]
    omega
theorem named_ok (h : Heap) (c : Clip) (hs : 0 ≤ c.src ∧ c.src ≤ 500) : ACall Tryd.prog 36 [.agg (encClip c).toArray] h fun x h' => Ext h h' ∧ x = .string (bL (namedL c)) := by
  have B := Bx.new h (encClip c) []
  have eM := Ext.more h [encClip c]
  have gk := isGap_ok (h.more [encClip c]) c
  simp only [encClip] at B eM gk
  refine ACall.of Tryd.func36 s36 (of_decide_eq_true rfl) ?_
  simp (maxSteps := 4000000) (disch := omega) only [ah, am, Nat.reduceEqDiff, reduceCtorEq, Nat.reduceAdd, Nat.reduceLeDiff, Nat.reduceMul, Nat.reduceLT, if_true, if_false, true_and, and_true, and_self, Nat.reduceBEq, QOp.loads, boxO, bslO, buildO, cutL, fillV, putL, w36, v36, encClip, B.ld]
  refine stepC.of gk ?_
  rintro _ H1 ⟨e0, rfl⟩
  have e1 : Ext h H1 := by rw [e0]; exact eM.trans (Ext.more _ _)
  have B1 : Bx H1 h.size [.int .i64 c.src, .int .i64 c.inn, .int .i64 c.len] := by rw [e0]; exact B.ext (Ext.more _ _)
  unfold namedL
  by_cases c0 : c.src = 0
  · simp (maxSteps := 4000000) (disch := omega) only [ah, am, Nat.reduceEqDiff, reduceCtorEq, Nat.reduceAdd, Nat.reduceLeDiff, Nat.reduceMul, Nat.reduceLT, if_true, if_false, true_and, and_true, and_self, Nat.reduceBEq, QOp.loads, boxO, bslO, buildO, cutL, fillV, putL, w36, v36, decide_eq_true c0]
    exact ⟨e1, by rw [if_pos c0]; rfl⟩
  · simp (maxSteps := 4000000) (disch := omega) only [ah, am, Nat.reduceEqDiff, reduceCtorEq, Nat.reduceAdd, Nat.reduceLeDiff, Nat.reduceMul, Nat.reduceLT, if_true, if_false, true_and, and_true, and_self, Nat.reduceBEq, QOp.loads, boxO, bslO, buildO, cutL, fillV, putL, w36, v36, decide_eq_false c0, B1.ld]
    refine stepC.of (FormatInt_ok H1 c.src (by omega) (by omega)) ?_
    rintro _ Hx ⟨hx, rfl⟩; rw [hx]; clear hx Hx
    have ei : itoaB c.src = bL (digs c.src.toNat) := by
      have := itoa_nat c.src.toNat
      rw [show ((c.src.toNat : Nat) : Int) = c.src from by omega] at this; exact this
    have hl := digs_len19 (n := c.src.toNat) (by omega)
    have A : strB .add ⟨#[82]⟩ (bL (digs c.src.toNat)) = some (.string (bL (82 :: digs c.src.toNat))) := strB_addL [82] (digs c.src.toNat) (by simp; omega)
    rw [ei]
    simp (maxSteps := 4000000) (disch := omega) only [ah, am, Nat.reduceEqDiff, reduceCtorEq, Nat.reduceAdd, Nat.reduceLeDiff, Nat.reduceMul, Nat.reduceLT, if_true, if_false, true_and, and_true, and_self, Nat.reduceBEq, QOp.loads, boxO, bslO, buildO, cutL, fillV, putL, w36, v36, A]
    exact ⟨e1, by rw [if_neg c0]⟩
theorem join7 (a b d x y u v : List UInt8) : Go.Lib.join [a, b, d, x, y, u, v] [32] = a ++ [32] ++ b ++ [32] ++ d ++ [32] ++ x ++ [32] ++ y ++ [32] ++ u ++ [32] ++ v := by
  simp [Go.Lib.join, List.intercalate, List.intersperse]
theorem lineL_none {r : Rate} {k : Nat} {c : Clip} {at' f : Int} (hf : f ∈ frames c at') (h : timeL r f = []) : lineL r k c at' = [] := by
  unfold lineL
  refine if_pos ?_
  simp only [frames, List.mem_cons, List.not_mem_nil, or_false] at hf
  rcases hf with rfl | rfl | rfl | rfl
  · exact .inl h
  · exact .inr (.inl h)
  · exact .inr (.inr (.inl h))
  · exact .inr (.inr (.inr h))
theorem lineL_some {r : Rate} {k : Nat} {c : Clip} {at' : Int} (h : ∀ f ∈ frames c at', timeL r f ≠ []) :
    lineL r k c at' = Go.Lib.join ((([bL (padL 3 (digs (k + 1))), bL (namedL c), bL [67]] ++ (frames c at').map fun f => bL (timeL r f))).map (·.data.toList)) [32] ++ [10] := by
  have h1 := h c.inn (by simp [frames])
  have h2 := h (IntKind.i64.wrap (c.inn + c.len)) (by simp [frames])
  have h3 := h at' (by simp [frames])
  have h4 := h (IntKind.i64.wrap (at' + c.len)) (by simp [frames])
  unfold lineL
  rw [if_neg (by rintro (q | q | q | q) <;> contradiction)]
  show _ = Go.Lib.join [padL 3 (digs (k + 1)), namedL c, [67], timeL r c.inn, timeL r (IntKind.i64.wrap (c.inn + c.len)), timeL r at', timeL r (IntKind.i64.wrap (at' + c.len))] [32] ++ [10]
  rw [join7]
  simp
theorem lineOf_ok (h : Heap) (r : Rate) (k : Nat) (c : Clip) (at' : Int) (hs : 0 ≤ c.src ∧ c.src ≤ 500) (hk : k ≤ 1000000) :
    ACall Tryd.prog 20 [.agg (encRate r).toArray, .int .i64 (k : Int), .agg (encClip c).toArray, .int .i64 at'] h fun x h' => Ext h h' ∧ x = .string (bL (lineL r k c at')) := by
  have B0 := Bx.new h [.int .i64 r.num, .int .i64 r.den, .bool r.drop] [[.int .i64 c.src, .int .i64 c.inn, .int .i64 c.len]]
  have eM := Ext.more h [[.int .i64 r.num, .int .i64 r.den, .bool r.drop], [.int .i64 c.src, .int .i64 c.inn, .int .i64 c.len]]
  have C0 : Bx (h.more [[.int .i64 r.num, .int .i64 r.den, .bool r.drop], [.int .i64 c.src, .int .i64 c.inn, .int .i64 c.len]]) (h.size + 1) [.int .i64 c.src, .int .i64 c.inn, .int .i64 c.len] := by
    have := Bx.new (h.more [[.int .i64 r.num, .int .i64 r.den, .bool r.drop]]) [.int .i64 c.src, .int .i64 c.inn, .int .i64 c.len] []
    rw [more_more, size_more] at this; exact this
  have w1 : IntKind.i64.wrap ((k : Int) + 1) = ((k + 1 : Nat) : Int) := i64e (by omega) (by omega)
  refine ACall.of Tryd.func20 s20 (of_decide_eq_true rfl) ?_
  simp (maxSteps := 4000000) (disch := omega) only [ah, am, Nat.reduceEqDiff, reduceCtorEq, Nat.reduceAdd, Nat.reduceLeDiff, Nat.reduceMul, Nat.reduceLT, if_true, if_false, true_and, and_true, and_self, Nat.reduceBEq, QOp.loads, boxO, bslO, buildO, cutL, fillV, putL, w20, v20, encRate, encClip, w1, C0.ld]
  obtain ⟨K0, hK0⟩ : ∃ K0, K0 = h.more [[.int .i64 r.num, .int .i64 r.den, .bool r.drop], [.int .i64 c.src, .int .i64 c.inn, .int .i64 c.len]] := ⟨_, rfl⟩
  rw [← hK0] at B0 C0 eM ⊢
  have pk := padded_ok K0 (k + 1) 3 (by omega) (by omega)
  rw [show (((3 : Nat) : Int)) = 3 from rfl] at pk
  refine stepC.of pk ?_
  rintro _ Hx ⟨hx, rfl⟩; rw [hx]; clear hx Hx
  have nk := named_ok K0 c hs
  simp only [encClip] at nk
  simp (maxSteps := 4000000) (disch := omega) only [ah, am, Nat.reduceEqDiff, reduceCtorEq, Nat.reduceAdd, Nat.reduceLeDiff, Nat.reduceMul, Nat.reduceLT, if_true, if_false, true_and, and_true, and_self, Nat.reduceBEq, QOp.loads, boxO, bslO, buildO, cutL, fillV, putL, w20, v20, rechk_cons, rechk_end, chkV_some, chkV_false, C0.ld]
  refine stepC.of nk ?_
  rintro _ H1 ⟨e1, rfl⟩
  have B1 := B0.ext e1
  have C1 := C0.ext e1
  have E1 := eM.trans e1
  have F0 : Fresh H1 (H1.more [[.string (bL (padL 3 (digs (k + 1)))), .string (bL (namedL c)), .string ⟨#[67]⟩]]) encS 1 (.slice (some ⟨H1.size, 0, none⟩) 3 1) [bL (padL 3 (digs (k + 1))), bL (namedL c), bL [67]] :=
    Fresh.new H1 [bL (padL 3 (digs (k + 1))), bL (namedL c), bL [67]] encS_len (by omega)
  have C2 := C1.ext F0.1
  simp (maxSteps := 4000000) (disch := omega) only [ah, am, Nat.reduceEqDiff, reduceCtorEq, Nat.reduceAdd, Nat.reduceLeDiff, Nat.reduceMul, Nat.reduceLT, if_true, if_false, true_and, and_true, and_self, Nat.reduceBEq, QOp.loads, boxO, bslO, buildO, cutL, fillV, putL, w20, v20, C2.ld]
  obtain ⟨K1, hK1⟩ : ∃ K1, K1 = H1.more [[.string (bL (padL 3 (digs (k + 1)))), .string (bL (namedL c)), .string ⟨#[67]⟩]] := ⟨_, rfl⟩
  obtain ⟨fs, hfs⟩ : ∃ fs, fs = frames c at' := ⟨_, rfl⟩
  have hf4 : fs.length = 4 := by rw [hfs]; rfl
  rw [← hK1] at F0 C2
  have FK : Fk [] H1 _ encS 1 _ ([bL (padL 3 (digs (k + 1))), bL (namedL c), bL [67]] ++ (fs.take 0).map fun f => bL (timeL r f)) ([] ++ boxesAt K1.size [fs.map (Value.int .i64)]) := (Fk.of (X := []) F0).more [fs.map (Value.int .i64)]
  simp only [boxesAt, List.nil_append] at FK
  have hK2 : K1.more [fs.map (Value.int .i64)] = H1.more [[.string (bL (padL 3 (digs (k + 1)))), .string (bL (namedL c)), .string ⟨#[67]⟩], [.int .i64 c.inn, .int .i64 (IntKind.i64.wrap (c.inn + c.len)), .int .i64 at', .int .i64 (IntKind.i64.wrap (at' + c.len))]] := by
    rw [hK1, hfs, more_more]; rfl
  have hq : K1.size = H1.size + 1 := by rw [hK1, size_more]; rfl
  rw [hK2, hq] at FK
  refine SW_loop_up (fun j E K => ∃ w, Fk [] H1 K encS 1 w ([bL (padL 3 (digs (k + 1))), bL (namedL c), bL [67]] ++ (fs.take j).map fun f => bL (timeL r f)) [(H1.size + 1, fs.map (Value.int .i64))] ∧ (∀ f ∈ fs.take j, timeL r f ≠ []) ∧
    E = [(4, .pointer (some ⟨h.size, 0, none⟩)), (9, w), (31, .slice (some ⟨H1.size + 1, 0, none⟩) 4 1), (32, .int .i64 ((4 : Nat) : Int)), (33, .int .i64 (j : Int))]) 4 0 (by omega) ⟨_, FK, by simp, rfl⟩ ?_
  clear FK hK2 hK1 F0
  rintro j E K hj ⟨w, F, A, rfl⟩
  have wj : IntKind.i64.wrap ((j : Int) + 1) = ((j + 1 : Nat) : Int) := i64e (by omega) (by omega)
  have eK := F.ext.ext
  simp (maxSteps := 4000000) (disch := omega) only [ah, am, Nat.reduceEqDiff, reduceCtorEq, Nat.reduceAdd, Nat.reduceLeDiff, Nat.reduceMul, Nat.reduceLT, if_true, if_false, true_and, and_true, and_self, Nat.reduceBEq, QOp.loads, boxO, bslO, buildO, cutL, fillV, putL, w20, v20]
  refine stepI.split (fun hp => ?_) (fun hp => ?_)
  · have hj4 : j < fs.length := by omega
    have IA : iaV 1 (.slice (some ⟨H1.size + 1, 0, none⟩) 4 1) (.int .i64 (j : Int)) = some (.pointer (some ⟨H1.size + 1, j, none⟩)) := by
      rw [iaV_slice _ _ _ _ _ _ (by omega) (by omega)]; simp
    have LD : ldV K (.pointer (some ⟨H1.size + 1, j, none⟩)) = some (.int .i64 fs[j]) := by
      rw [(F.ld (i := H1.size + 1) (cs := fs.map (Value.int .i64)) (by simp)).1, List.getElem?_map, List.getElem?_eq_getElem hj4]; rfl
    have tk := TimeText_ok K r fs[j]
    simp only [encRate] at tk
    simp (maxSteps := 4000000) (disch := omega) only [ah, am, Nat.reduceEqDiff, reduceCtorEq, Nat.reduceAdd, Nat.reduceLeDiff, Nat.reduceMul, Nat.reduceLT, if_true, if_false, true_and, and_true, and_self, Nat.reduceBEq, QOp.loads, boxO, bslO, buildO, cutL, fillV, putL, w20, v20, IA, LD, (B1.ext eK).ld]
    refine stepC.of tk ?_
    rintro _ K2 ⟨e2, rfl⟩
    have F2 := F.step e2
    have hin : fs[j] ∈ frames c at' := by rw [← hfs]; exact List.getElem_mem hj4
    by_cases ct : timeL r fs[j] = []
    · simp (maxSteps := 4000000) (disch := omega) only [ah, am, Nat.reduceEqDiff, reduceCtorEq, Nat.reduceAdd, Nat.reduceLeDiff, Nat.reduceMul, Nat.reduceLT, if_true, if_false, true_and, and_true, and_self, Nat.reduceBEq, QOp.loads, boxO, bslO, buildO, cutL, fillV, putL, w20, v20, strB_nil, decide_eq_true ct]
      exact ⟨E1.trans F2.ext.ext, by rw [lineL_none hin ct]; rfl⟩
    · obtain ⟨w2, K3, ap, F3⟩ := F2.app1 [] (bL (timeL r fs[j])) (bytes := 16) (by simp; omega)
      simp only [boxesAt, List.nil_append, List.append_nil, List.length_nil, Nat.add_zero, encS] at ap F3
      simp (maxSteps := 4000000) (disch := omega) only [ah, am, Nat.reduceEqDiff, reduceCtorEq, Nat.reduceAdd, Nat.reduceLeDiff, Nat.reduceMul, Nat.reduceLT, if_true, if_false, true_and, and_true, and_self, Nat.reduceBEq, QOp.loads, boxO, bslO, buildO, cutL, fillV, putL, w20, v20, strB_nil, decide_eq_false ct, ap, wj]
      refine ⟨by omega, w2, ?_, ?_, rfl⟩
      · rw [List.take_succ_eq_append_getElem hj4, List.map_append]
        simp only [List.cons_append, List.nil_append, List.append_assoc, List.map_cons, List.map_nil] at F3 ⊢
        exact F3
      · intro f hf
        rw [List.take_succ_eq_append_getElem hj4] at hf
        rcases List.mem_append.mp hf with hf | hf
        · exact A f hf
        · rw [List.mem_singleton] at hf; rw [hf]; exact ct
  · have hj4 : j = 4 := by omega
    subst hj4
    rw [List.take_of_length_le (by omega)] at F A
    rw [hfs] at F A
    have hL := lineL_some (k := k) A
    have hlen := lineL_len r k c at' hs hk
    rw [hL, List.length_append] at hlen
    simp (maxSteps := 4000000) (disch := omega) only [ah, am, Nat.reduceEqDiff, reduceCtorEq, Nat.reduceAdd, Nat.reduceLeDiff, Nat.reduceMul, Nat.reduceLT, if_true, if_false, true_and, and_true, and_self, Nat.reduceBEq, QOp.loads, boxO, bslO, buildO, cutL, fillV, putL, w20, v20]
    refine stepC.of (Join_ok K w _ ⟨#[32]⟩ F.slt (by simp) (by simp [frames]) (by rw [show (⟨#[32]⟩ : ByteArray).data.toList = [32] from rfl]; omega)) ?_
    rintro _ Hx ⟨hx, rfl⟩; rw [hx]; clear hx Hx
    have A2 := strB_addL (Go.Lib.join ((([bL (padL 3 (digs (k + 1))), bL (namedL c), bL [67]] ++ (frames c at').map fun f => bL (timeL r f))).map (·.data.toList)) [32]) [10] (by simp at hlen ⊢; omega)
    rw [hL]
    generalize Go.Lib.join ((([bL (padL 3 (digs (k + 1))), bL (namedL c), bL [67]] ++ (frames c at').map fun f => bL (timeL r f))).map (·.data.toList)) [32] = J at *
    have A3 : strB .add ⟨J.toArray⟩ ⟨#[10]⟩ = some (.string (bL (J ++ [10]))) := A2
    simp (maxSteps := 4000000) (disch := omega) only [ah, am, Nat.reduceEqDiff, reduceCtorEq, Nat.reduceAdd, Nat.reduceLeDiff, Nat.reduceMul, Nat.reduceLT, if_true, if_false, true_and, and_true, and_self, Nat.reduceBEq, QOp.loads, boxO, bslO, buildO, cutL, fillV, putL, w20, v20, A3]
    exact E1.trans eK
end Go.Proofs.YtgmimgmdbpcecaaDoor
