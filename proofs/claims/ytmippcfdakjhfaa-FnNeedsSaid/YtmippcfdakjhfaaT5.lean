import Derived.Test.YtmippcfdakjhfaaT1
import Derived.Test.YtmippcfdakjhfaaD3g
import Derived.Test.YtmippcfdakjhfaaG15
namespace Go.Proofs.Ytmippcfdakjhfaa
open Go Go.Ah
set_option linter.unusedSimpArgs false
set_option linter.unusedVariables false
set_option maxRecDepth 10000
set_option maxHeartbeats 4000000
/-! 20 loop.example/g00066/spec.DrawNeeds: parameters 1, live [0], slots [0:code, 1:code, 4:c, 5:out, 6:n, 7:h] -/
def c20_0 : List SOper := [⟨some 2, .q (.mv (.c (.slice none 0 0))), none⟩, ⟨some 3, .q (.mv (.c (.int .i64 0))), none⟩]
def c20_1 : List SOper := [⟨some 8, .q (.mv (.t 0)), none⟩, ⟨some 9, .e (.call 34 [(.t 8)]), none⟩, ⟨some 4, .q (.mv (.t 9)), none⟩]
def c20_2 : List SOper := [⟨some 10, .a (.bsl 0 1 [] []), none⟩, ⟨some 5, .q (.mv (.t 10)), none⟩]
def c20_3 : List SOper := [⟨some 11, .q (.mv (.t 4)), none⟩, ⟨some 12, .e (.call 37 [(.t 11), (.c (.int .i64 4))]), none⟩, ⟨some 6, .q (.mv (.t 12)), none⟩]
def c20_4 : List SOper := [⟨some 13, .q (.mv (.t 6)), none⟩, ⟨some 14, .q (.bin .gtr (.t 13) (.c (.int .i64 0))), none⟩]
def c20_5 : SCode := .cond (.t 14) .skip (.exit 0)
def c20_6 : SCode := .seq (.region c20_4 [4, 5, 6, 14]) c20_5
def c20_7 : List SOper := [⟨some 17, .q (.mv (.t 5)), none⟩, ⟨some 18, .q (.mv (.t 4)), none⟩, ⟨some 19, .e (.call 38 [(.t 18)]), none⟩, ⟨some 20, .a (.bsl 1 1 [(.slice none 0 0)] [(0, 1, (.t 19))]), none⟩, ⟨some 21, .e (.app 24 1 (.t 17) (.t 20)), none⟩, ⟨some 5, .q (.mv (.t 21)), none⟩]
def c20_8 : SCode := .block 1 (.region c20_7 [4, 5, 6])
def c20_9 : List SOper := [⟨some 15, .q (.mv (.t 6)), none⟩, ⟨some 16, .q (.bin .sub (.t 15) (.c (.int .i64 1))), none⟩, ⟨some 6, .q (.mv (.t 16)), none⟩]
def c20_10 : SCode := .seq c20_8 (.region c20_9 [4, 5, 6])
def c20_11 : SCode := .seq c20_6 c20_10
def c20_12 : SCode := .loop c20_11
def c20_13 : SCode := .block 0 c20_12
def c20_14 : SCode := .seq (.region c20_3 [4, 5, 6]) c20_13
def c20_15 : List SOper := [⟨some 22, .q (.mv (.t 4)), none⟩, ⟨some 23, .e (.call 37 [(.t 22), (.c (.int .i64 12))]), none⟩, ⟨some 7, .q (.mv (.t 23)), none⟩]
def c20_16 : List SOper := [⟨some 24, .q (.mv (.t 4)), none⟩, ⟨some 25, .e (.call 36 [(.t 24), (.c (.int .i64 12))]), none⟩]
def c20_17 : List SOper := [⟨some 26, .a (.bsl 4 1 [(.int .i64 0), (.int .i64 0), (.int .i64 0), (.int .i64 0)] [(0, 1, (.c (.int .i64 (-1)))), (1, 1, (.c (.int .i64 0))), (2, 1, (.c (.int .i64 1000))), (3, 1, (.c (.int .i64 1001)))]), none⟩, ⟨some 27, .q (.mv (.t 4)), none⟩, ⟨some 28, .e (.call 37 [(.t 27), (.c (.int .i64 4))]), none⟩, ⟨some 29, .q (.ia 1 (.t 26) (.t 28)), none⟩, ⟨some 30, .q (.ld (.t 29)), none⟩, ⟨some 7, .q (.mv (.t 30)), none⟩]
def c20_18 : SCode := .cond (.t 25) (.region c20_17 [4, 5, 7]) .skip
def c20_19 : SCode := .seq (.region c20_16 [4, 5, 7, 25]) c20_18
def c20_20 : List SOper := [⟨some 31, .q (.mv (.t 4)), none⟩, ⟨some 32, .e (.call 36 [(.t 31), (.c (.int .i64 40))]), none⟩]
def c20_21 : List SOper := [⟨some 33, .q (.mv (.t 5)), none⟩, ⟨some 34, .q (.len (.t 33)), none⟩, ⟨some 35, .q (.mv (.t 4)), none⟩, ⟨some 36, .e (.call 37 [(.t 35), (.c (.int .i64 2))]), none⟩, ⟨some 37, .q (.bin .add (.c (.int .i64 50)) (.t 36)), none⟩, ⟨some 38, .q (.bin .lss (.t 34) (.t 37)), none⟩]
def c20_22 : SCode := .cond (.t 38) .skip (.exit 2)
def c20_23 : SCode := .seq (.region c20_21 [4, 5, 7, 38]) c20_22
def c20_24 : List SOper := [⟨some 39, .q (.mv (.t 5)), none⟩, ⟨some 40, .q (.build [(.int .i64 0), (.int .i64 0), (.int .i64 0)] [(0, 1, (.c (.int .i64 1))), (2, 1, (.c (.int .i64 1)))]), none⟩, ⟨some 41, .a (.bsl 1 3 [(.int .i64 0), (.int .i64 0), (.int .i64 0)] [(0, 3, (.t 40))]), none⟩, ⟨some 42, .a (.bsl 1 1 [(.slice none 0 0)] [(0, 1, (.t 41))]), none⟩, ⟨some 43, .e (.app 24 1 (.t 39) (.t 42)), none⟩, ⟨some 5, .q (.mv (.t 43)), none⟩]
def c20_25 : SCode := .block 3 (.region c20_24 [4, 5, 7])
def c20_26 : SCode := .seq c20_23 c20_25
def c20_27 : SCode := .loop c20_26
def c20_28 : SCode := .block 2 c20_27
def c20_29 : SCode := .cond (.t 32) c20_28 .skip
def c20_30 : SCode := .seq (.region c20_20 [4, 5, 7, 32]) c20_29
def c20_31 : List SOper := [⟨some 44, .q (.mv (.t 5)), none⟩, ⟨some 45, .q (.mv (.t 7)), none⟩, ⟨some 2, .q (.mv (.t 44)), none⟩, ⟨some 3, .q (.mv (.t 45)), none⟩]
def c20_32 : SCode := .seq (.region c20_31 [2, 3]) .ret
def c20_33 : SCode := .seq c20_30 c20_32
def c20_34 : SCode := .seq c20_19 c20_33
def c20_35 : SCode := .seq (.region c20_15 [4, 5, 7]) c20_34
def c20_36 : SCode := .seq c20_14 c20_35
def c20_37 : SCode := .seq (.region c20_2 [4, 5]) c20_36
def c20_38 : SCode := .seq (.region c20_1 [4]) c20_37
def c20_39 : SCode := .seq (.region c20_0 [0]) c20_38
def c20 : SCode := c20_39
theorem w20 : type_of% (And.intro (uR Try.prog c20_0.eq_1) (And.intro (uR Try.prog c20_1.eq_1) (And.intro (uR Try.prog c20_2.eq_1) (And.intro (uR Try.prog c20_3.eq_1) (And.intro (uR Try.prog c20_4.eq_1) (And.intro (uC Try.prog c20_5.eq_1) (And.intro (uC Try.prog c20_6.eq_1) (And.intro (uR Try.prog c20_7.eq_1) (And.intro (uC Try.prog c20_8.eq_1) (And.intro (uR Try.prog c20_9.eq_1) (And.intro (uC Try.prog c20_10.eq_1) (And.intro (uC Try.prog c20_11.eq_1) (And.intro (uC Try.prog c20_12.eq_1) (And.intro (uC Try.prog c20_13.eq_1) (And.intro (uC Try.prog c20_14.eq_1) (And.intro (uR Try.prog c20_15.eq_1) (And.intro (uR Try.prog c20_16.eq_1) (And.intro (uR Try.prog c20_17.eq_1) (And.intro (uC Try.prog c20_18.eq_1) (And.intro (uC Try.prog c20_19.eq_1) (And.intro (uR Try.prog c20_20.eq_1) (And.intro (uR Try.prog c20_21.eq_1) (And.intro (uC Try.prog c20_22.eq_1) (And.intro (uC Try.prog c20_23.eq_1) (And.intro (uR Try.prog c20_24.eq_1) (And.intro (uC Try.prog c20_25.eq_1) (And.intro (uC Try.prog c20_26.eq_1) (And.intro (uC Try.prog c20_27.eq_1) (And.intro (uC Try.prog c20_28.eq_1) (And.intro (uC Try.prog c20_29.eq_1) (And.intro (uC Try.prog c20_30.eq_1) (And.intro (uR Try.prog c20_31.eq_1) (And.intro (uC Try.prog c20_32.eq_1) (And.intro (uC Try.prog c20_33.eq_1) (And.intro (uC Try.prog c20_34.eq_1) (And.intro (uC Try.prog c20_35.eq_1) (And.intro (uC Try.prog c20_36.eq_1) (And.intro (uC Try.prog c20_37.eq_1) (And.intro (uC Try.prog c20_38.eq_1) (And.intro (uC Try.prog c20_39.eq_1) (uC Try.prog c20.eq_1))))))))))))))))))))))))))))))))))))))))) := (And.intro (uR Try.prog c20_0.eq_1) (And.intro (uR Try.prog c20_1.eq_1) (And.intro (uR Try.prog c20_2.eq_1) (And.intro (uR Try.prog c20_3.eq_1) (And.intro (uR Try.prog c20_4.eq_1) (And.intro (uC Try.prog c20_5.eq_1) (And.intro (uC Try.prog c20_6.eq_1) (And.intro (uR Try.prog c20_7.eq_1) (And.intro (uC Try.prog c20_8.eq_1) (And.intro (uR Try.prog c20_9.eq_1) (And.intro (uC Try.prog c20_10.eq_1) (And.intro (uC Try.prog c20_11.eq_1) (And.intro (uC Try.prog c20_12.eq_1) (And.intro (uC Try.prog c20_13.eq_1) (And.intro (uC Try.prog c20_14.eq_1) (And.intro (uR Try.prog c20_15.eq_1) (And.intro (uR Try.prog c20_16.eq_1) (And.intro (uR Try.prog c20_17.eq_1) (And.intro (uC Try.prog c20_18.eq_1) (And.intro (uC Try.prog c20_19.eq_1) (And.intro (uR Try.prog c20_20.eq_1) (And.intro (uR Try.prog c20_21.eq_1) (And.intro (uC Try.prog c20_22.eq_1) (And.intro (uC Try.prog c20_23.eq_1) (And.intro (uR Try.prog c20_24.eq_1) (And.intro (uC Try.prog c20_25.eq_1) (And.intro (uC Try.prog c20_26.eq_1) (And.intro (uC Try.prog c20_27.eq_1) (And.intro (uC Try.prog c20_28.eq_1) (And.intro (uC Try.prog c20_29.eq_1) (And.intro (uC Try.prog c20_30.eq_1) (And.intro (uR Try.prog c20_31.eq_1) (And.intro (uC Try.prog c20_32.eq_1) (And.intro (uC Try.prog c20_33.eq_1) (And.intro (uC Try.prog c20_34.eq_1) (And.intro (uC Try.prog c20_35.eq_1) (And.intro (uC Try.prog c20_36.eq_1) (And.intro (uC Try.prog c20_37.eq_1) (And.intro (uC Try.prog c20_38.eq_1) (And.intro (uC Try.prog c20_39.eq_1) (uC Try.prog c20.eq_1)))))))))))))))))))))))))))))))))))))))))
def v20 : List RV := [.t 2, .t 3]
theorem s20 : slimF Try.prog Try.f20 = some (c20.bare, v20) := by kernel_rfl

/-- Rows that are drawn: an own slice of them, each apart from it and from the cursor. -/
def RowsB (c g : Nat) (K : Heap) (ov : Value) (ls : List (List Clip)) : Prop := ∃ rs : List Value, OwnT g K encV 1 ov rs ∧ rs.length = ls.length ∧
  ∀ j (h1 : j < rs.length) (h2 : j < ls.length), ∃ a b, Mine a b K encClip 3 rs[j] ls[j] ∧ c < a ∧ b ≤ K.size ∧ (g < a ∨ b ≤ g)
section
variable {c g : Nat} {K K' : Heap} {ov : Value} {ls : List (List Clip)}
theorem RowsB.at (r : RowsB c g K ov ls) : TracksAt K ov ls := by
  obtain ⟨rs, o, hl, H⟩ := r
  exact ⟨rs, o.slt, hl, fun j h1 h2 => by obtain ⟨a, b, m, _⟩ := H j h1 h2; exact m.slt⟩
theorem RowsB.ext (r : RowsB c g K ov ls) (e : Ext K K') : RowsB c g K' ov ls := by
  obtain ⟨rs, o, hl, H⟩ := r
  refine ⟨rs, o.ext e, hl, fun j h1 h2 => ?_⟩
  obtain ⟨a, b, m, q1, q2, q3⟩ := H j h1 h2
  exact ⟨a, b, m.ext e, q1, Nat.le_trans q2 e.1, q3⟩
theorem RowsB.stepG (r : RowsB c g K ov ls) (e : ExtG c K K') (hg : g ≠ c) : RowsB c g K' ov ls := by
  obtain ⟨rs, o, hl, H⟩ := r
  refine ⟨rs, o.extG e hg, hl, fun j h1 h2 => ?_⟩
  obtain ⟨a, b, m, q1, q2, q3⟩ := H j h1 h2
  exact ⟨a, b, mineG m e (.inl q1), q1, Nat.le_trans q2 e.1, q3⟩
theorem RowsB.app (r : RowsB c g K ov ls) {x : Value} {l : List Clip} {a b : Nat} (m : Mine a b K encClip 3 x l) (hc : c < a) (hb : b ≤ K.size) (hg : g < a ∨ b ≤ g) (hl : ls.length ≤ 1000) :
    ∃ v2 K2 g2, appV (K.more [[x]]) 24 1 ov (.slice (some ⟨K.size, 0, none⟩) 1 1) = some (v2, K2) ∧ RowsB c g2 K2 v2 (ls ++ [l]) ∧ ExtG g (K.more [[x]]) K2 ∧ (g2 = g ∨ K.size ≤ g2) := by
  obtain ⟨rs, o, hln, H⟩ := r
  have e := Ext.more K [[x]]
  have s := (OwnT.new K [x] encV_len (by omega)).slt
  simp only [List.flatMap_cons, List.flatMap_nil, List.append_nil, List.length_cons, List.length_nil, Nat.zero_add, encV] at s
  obtain ⟨v2, K2, g2, ea, O, G, hg2⟩ := (o.ext e).app s (bytes := 24) (by simp; omega)
  have hs := e.1
  have hs2 := G.1
  refine ⟨v2, K2, g2, ea, ⟨rs ++ [x], O, by simp [hln], fun j h1 h2 => ?_⟩, G, by omega⟩
  have key : ∀ {a b : Nat} {y : Value} {t : List Clip}, Mine a b K encClip 3 y t → c < a → b ≤ K.size → (g < a ∨ b ≤ g) → ∃ a b, Mine a b K2 encClip 3 y t ∧ c < a ∧ b ≤ K2.size ∧ (g2 < a ∨ b ≤ g2) := by
    intro a b y t m h1 h2 h3
    exact ⟨a, b, mineG (m.ext e) G h3, h1, by omega, by omega⟩
  by_cases hj : j < rs.length
  · rw [List.getElem_append_left hj, List.getElem_append_left (by omega)]
    obtain ⟨a, b, m, q1, q2, q3⟩ := H j hj (by omega)
    exact key m q1 q2 q3
  · have h1' : j = rs.length := by simp at h1; omega
    subst h1'
    rw [List.getElem_append_right (Nat.le_refl _), List.getElem_append_right (by omega)]
    simp only [hln, Nat.sub_self, List.getElem_cons_zero]
    exact key m hc hb hg
end
theorem DrawNeeds_ok (h : Heap) (v : Value) (code : List Int) (s : SlT h encByte 1 v code) (hl : code.length ≤ 4096) :
    ACall Try.prog 20 [v] h fun r h' => ∃ tv n ts, r = .tuple #[tv, .int .i64 n] ∧ Ext h h' ∧ TracksAt h' tv ts ∧ ts.length ≤ 60 ∧ ∀ t ∈ ts, t.length ≤ 301 := by
  refine ACall.of Try.func20 s20 (of_decide_eq_true rfl) ?_
  simp (maxSteps := 4000000) (disch := omega) only [ah, am, Nat.reduceEqDiff, reduceCtorEq, Nat.reduceAdd, Nat.reduceLeDiff, Nat.reduceMul, Nat.reduceLT, if_true, if_false, true_and, and_true, and_self, Nat.reduceBEq, QOp.loads, boxO, bslO, buildO, cutL, fillV, putL, w20, v20]
  refine stepC.of (l1New_ok _ _ _ s hl) ?_
  rintro _ H1 ⟨e1, rfl, kc⟩
  have hc := kc.lt
  obtain ⟨c, hcc⟩ : ∃ c, c = h.size := ⟨_, rfl⟩
  rw [← hcc] at kc hc ⊢
  simp (maxSteps := 4000000) (disch := omega) only [ah, am, Nat.reduceEqDiff, reduceCtorEq, Nat.reduceAdd, Nat.reduceLeDiff, Nat.reduceMul, Nat.reduceLT, if_true, if_false, true_and, and_true, and_self, Nat.reduceBEq, QOp.loads, boxO, bslO, buildO, cutL, fillV, putL, w20, v20]
  refine stepC.of (l1Below_ok _ _ _ (kc.ext (Ext.more H1 [[]]))) ?_
  rintro _ H2 ⟨n0, rfl, n1, n2, _, g2, k2⟩
  have n3 := n2 (by omega)
  have E2 : Ext h H2 := g2.ext (e1.trans (Ext.more H1 [[]])) (by omega)
  have hne : H1.size ≠ c := by omega
  have B0 : RowsB c H1.size H2 (.slice (some ⟨H1.size, 0, none⟩) 0 1) [] := by
    refine ⟨[], (OwnT.new0 H1 encV_len (by omega)).extG g2 hne, rfl, fun j h1 => by simp at h1⟩
  have hs1 : H1.size < H2.size := by have := g2.1; rw [size_more] at this; simp at this; omega
  generalize (Value.slice (some ⟨H1.size, 0, none⟩) 0 1) = ov0 at B0 ⊢
  obtain ⟨gg, hgg⟩ : ∃ gg, gg = H1.size := ⟨_, rfl⟩
  rw [← hgg] at B0 hne hs1
  have hcg : c < gg := by omega
  clear hgg e1 hc
  simp (maxSteps := 4000000) (disch := omega) only [ah, am, Nat.reduceEqDiff, reduceCtorEq, Nat.reduceAdd, Nat.reduceLeDiff, Nat.reduceMul, Nat.reduceLT, if_true, if_false, true_and, and_true, and_self, Nat.reduceBEq, QOp.loads, boxO, bslO, buildO, cutL, fillV, putL, w20, v20]
  -- the end
  have last : ∀ {K : Heap} {ov : Value} {ls : List (List Clip)} {g : Nat} (n : Int) (t : Env), RowsB c g K ov ls → c < g → g < K.size → Cur K c → Ext h K → ls.length ≤ 3 → (∀ t ∈ ls, t.length ≤ 301) →
      SW Try.prog c20_33 (retQ v20 fun r h' => ∃ tv n ts, r = .tuple #[tv, .int .i64 n] ∧ Ext h h' ∧ TracksAt h' tv ts ∧ ts.length ≤ 60 ∧ ∀ t ∈ ts, t.length ≤ 301) ((4, .pointer (some ⟨c, 0, none⟩)) :: (5, ov) :: (7, .int .i64 n) :: t) K := by
    intro K ov ls g n t B hg1 hg2 k e hl hr
    simp (maxSteps := 4000000) (disch := omega) only [ah, am, Nat.reduceEqDiff, reduceCtorEq, Nat.reduceAdd, Nat.reduceLeDiff, Nat.reduceMul, Nat.reduceLT, if_true, if_false, true_and, and_true, and_self, Nat.reduceBEq, QOp.loads, boxO, bslO, buildO, cutL, fillV, putL, w20, v20]
    refine stepC.of (l1Once_ok _ _ _ k) ?_
    rintro _ K2 ⟨b, rfl, G2, k2⟩
    have B2 := B.stepG G2 (by omega)
    have e2 : Ext h K2 := G2.ext e (by omega)
    have hz := G2.1
    cases b with
    | false =>
      simp (maxSteps := 4000000) (disch := omega) only [ah, am, Nat.reduceEqDiff, reduceCtorEq, Nat.reduceAdd, Nat.reduceLeDiff, Nat.reduceMul, Nat.reduceLT, if_true, if_false, true_and, and_true, and_self, Nat.reduceBEq, QOp.loads, boxO, bslO, buildO, cutL, fillV, putL, w20, v20]
      exact ⟨ov, n, ls, rfl, e2, B2.at, by omega, hr⟩
    | true =>
      simp (maxSteps := 4000000) (disch := omega) only [ah, am, Nat.reduceEqDiff, reduceCtorEq, Nat.reduceAdd, Nat.reduceLeDiff, Nat.reduceMul, Nat.reduceLT, if_true, if_false, true_and, and_true, and_self, Nat.reduceBEq, QOp.loads, boxO, bslO, buildO, cutL, fillV, putL, w20, v20]
      refine SW_loop_up (fun i E K => ∃ ov ls g, (∃ t, E = (4, .pointer (some ⟨c, 0, none⟩)) :: (5, ov) :: (7, .int .i64 n) :: t) ∧ RowsB c g K ov ls ∧ c < g ∧ g < K.size ∧ Cur K c ∧ Ext h K ∧ ls.length = i ∧ ∀ t ∈ ls, t.length ≤ 301) 51 ls.length (by omega)
        ⟨ov, ls, g, ⟨_, rfl⟩, B2, hg1, by omega, k2, e2, rfl, hr⟩ ?_
      clear B B2 hr k k2 e e2 G2 hg1 hg2 hz
      rintro i E K hi ⟨ov, ls, g, ⟨t, rfl⟩, B, hg1, hg2, kK, eK, hl, hr⟩
      obtain ⟨rs, so, hln, -⟩ := B.at
      have R := so.rulesN
      simp only [hln, hl] at R
      simp (maxSteps := 4000000) (disch := omega) only [ah, am, Nat.reduceEqDiff, reduceCtorEq, Nat.reduceAdd, Nat.reduceLeDiff, Nat.reduceMul, Nat.reduceLT, if_true, if_false, true_and, and_true, and_self, Nat.reduceBEq, QOp.loads, boxO, bslO, buildO, cutL, fillV, putL, w20, v20, R.1]
      refine stepC.of (l1Below_ok _ _ _ kK) ?_
      rintro _ K3 ⟨x, rfl, x1, x2, _, g3, k3⟩
      have x3 : x < 2 := x2 (by omega)
      have B3 := B.stepG g3 (by omega)
      have e3 : Ext h K3 := g3.ext eK (by omega)
      have hz3 := g3.1
      simp (maxSteps := 4000000) (disch := omega) only [ah, am, Nat.reduceEqDiff, reduceCtorEq, Nat.reduceAdd, Nat.reduceLeDiff, Nat.reduceMul, Nat.reduceLT, if_true, if_false, true_and, and_true, and_self, Nat.reduceBEq, QOp.loads, boxO, bslO, buildO, cutL, fillV, putL, w20, v20, i64w]
      refine stepI.split (fun hq => ?_) (fun hq => ?_)
      · have eM : Ext K3 (K3.more [[.int .i64 1, .int .i64 0, .int .i64 1]]) := Ext.more _ _
        have hsz : (K3.more [[.int .i64 1, .int .i64 0, .int .i64 1]]).size = K3.size + 1 := size_more _ _
        have M : Mine K3.size (K3.size + 1) (K3.more [[.int .i64 1, .int .i64 0, .int .i64 1]]) encClip 3 (.slice (some ⟨K3.size, 0, none⟩) 1 3) [⟨1, 0, 1⟩] := by
          have o := OwnT.new K3 [(⟨1, 0, 1⟩ : Clip)] encClip_len (by omega)
          simp only [List.flatMap_cons, List.flatMap_nil, List.append_nil, List.length_cons, List.length_nil, Nat.zero_add, encClip] at o
          exact ⟨o.slt, .inr ⟨K3.size, Nat.le_refl _, Nat.lt_succ_self _, o⟩⟩
        obtain ⟨v2, K4, g4, ea, B4, G4, hg4⟩ := (B3.ext eM).app M (by omega) (by omega) (.inl (by omega)) (by omega)
        have hz4 := G4.1
        simp only [more_more, size_more, List.cons_append, List.nil_append, List.length_cons, List.length_nil, Nat.zero_add] at ea hz4 hg4
        simp (maxSteps := 4000000) (disch := omega) only [ah, am, Nat.reduceEqDiff, reduceCtorEq, Nat.reduceAdd, Nat.reduceLeDiff, Nat.reduceMul, Nat.reduceLT, if_true, if_false, true_and, and_true, and_self, Nat.reduceBEq, QOp.loads, boxO, bslO, buildO, cutL, fillV, putL, w20, v20, ea]
        have eMM : Ext K3 ((K3.more [[.int .i64 1, .int .i64 0, .int .i64 1]]).more [[.slice (some ⟨K3.size, 0, none⟩) 1 3]]) := eM.trans (Ext.more _ _)
        refine ⟨by omega, _, ls ++ [[⟨1, 0, 1⟩]], g4, ⟨_, rfl⟩, B4, by omega, ?_, curStepG (k3.ext eMM) G4 (by omega), G4.ext (e3.trans eMM) (by have := eK.1; omega), by simp; omega, ?_⟩
        · obtain ⟨rs4, o4, hln4, _⟩ := B4
          rcases o4.own with ⟨rfl, q⟩ | ⟨j, off, nn, ob, rfl, q2, q3, q4, q5, q6, q7⟩
          · exfalso
            have := flat_len encV_len rs4
            rw [q] at this
            simp at this hln4; omega
          · have := Heap.grp_le q2; have := Heap.get_lt q2; omega
        · intro t ht
          rcases List.mem_append.mp ht with ht | ht
          · exact hr t ht
          · rw [List.mem_singleton] at ht; rw [ht]; simp
      · simp (maxSteps := 4000000) (disch := omega) only [ah, am, Nat.reduceEqDiff, reduceCtorEq, Nat.reduceAdd, Nat.reduceLeDiff, Nat.reduceMul, Nat.reduceLT, if_true, if_false, true_and, and_true, and_self, Nat.reduceBEq, QOp.loads, boxO, bslO, buildO, cutL, fillV, putL, w20, v20]
        exact ⟨ov, n, ls, rfl, e3, B3.at, by omega, hr⟩
  rw [c20_35.eq_1, c20_34.eq_1]
  generalize c20_33 = fc at last ⊢
  have hs0 := E2.1
  refine SW_loop_up (fun i E K => ∃ ov ls g, E = [(4, .pointer (some ⟨c, 0, none⟩)), (5, ov), (6, .int .i64 (n0 - i))] ∧ RowsB c g K ov ls ∧ c < g ∧ g < K.size ∧ Cur K c ∧ Ext h K ∧ ls.length = i ∧ ∀ t ∈ ls, t.length ≤ 301) n0.toNat 0 (by omega)
    ⟨ov0, [], gg, by simp, B0, hcg, hs1, k2, E2, rfl, fun t ht => by cases ht⟩ ?_
  clear B0 hs1 E2 k2 kc g2
  rintro i E K hi ⟨ov, ls, g, rfl, B, hg1, hg2, kK, eK, hl, hr⟩
  simp (maxSteps := 4000000) (disch := omega) only [ah, am, Nat.reduceEqDiff, reduceCtorEq, Nat.reduceAdd, Nat.reduceLeDiff, Nat.reduceMul, Nat.reduceLT, if_true, if_false, true_and, and_true, and_self, Nat.reduceBEq, QOp.loads, boxO, bslO, buildO, cutL, fillV, putL, w20, v20]
  refine stepI.split (fun hp => ?_) (fun hp => ?_)
  · have W : IntKind.i64.wrap (n0 - (i : Int) - 1) = n0 - ((i + 1 : Nat) : Int) := i64e (by omega) (by omega)
    simp (maxSteps := 4000000) (disch := omega) only [ah, am, Nat.reduceEqDiff, reduceCtorEq, Nat.reduceAdd, Nat.reduceLeDiff, Nat.reduceMul, Nat.reduceLT, if_true, if_false, true_and, and_true, and_self, Nat.reduceBEq, QOp.loads, boxO, bslO, buildO, cutL, fillV, putL, w20, v20]
    refine stepC.of (l4DrawTrack_ok _ _ kK) ?_
    rintro tv K2 ⟨l, F2, k2, hd⟩
    have B2 : RowsB c g K2 ov ls := B.stepG F2.ext.toG (by omega)
    have M := F2.mine
    have hz2 := F2.ext.1
    have p1 := cells_slT F2.slt
    have p2 := oneB_slT F2.slt
    have e2 : Ext h K2 := F2.ext.toG.ext eK (by omega)
    have hcK := kK.lt
    obtain ⟨v2, K3, g3, ea, B3, G3, hg3⟩ := B2.app M (by omega) (Nat.le_refl _) (.inl hg2) (by omega)
    have hz3 := G3.1
    simp only [size_more, List.length_cons, List.length_nil, Nat.zero_add] at hz3
    simp (maxSteps := 4000000) (disch := omega) only [ah, am, Nat.reduceEqDiff, reduceCtorEq, Nat.reduceAdd, Nat.reduceLeDiff, Nat.reduceMul, Nat.reduceLT, if_true, if_false, true_and, and_true, and_self, Nat.reduceBEq, QOp.loads, boxO, bslO, buildO, cutL, fillV, putL, w20, v20, p1, p2, ea, W]
    have eM : Ext K2 (K2.more [[tv]]) := Ext.more _ _
    refine ⟨by omega, v2, ls ++ [l], g3, rfl, B3, by omega, ?_, curStepG (k2.ext eM) G3 (by omega), G3.ext (e2.trans eM) (by omega), by simp; omega, ?_⟩
    · obtain ⟨rs4, o4, hln4, _⟩ := B3
      rcases o4.own with ⟨rfl, q⟩ | ⟨j, off, nn, ob, rfl, q2, q3, q4, q5, q6, q7⟩
      · exfalso
        have := flat_len encV_len rs4
        rw [q] at this
        simp at this hln4; omega
      · have := Heap.grp_le q2; have := Heap.get_lt q2; omega
    · intro t ht
      rcases List.mem_append.mp ht with ht | ht
      · exact hr t ht
      · rw [List.mem_singleton] at ht; rw [ht]; exact hd.2
  · simp (maxSteps := 4000000) (disch := omega) only [ah, am, Nat.reduceEqDiff, reduceCtorEq, Nat.reduceAdd, Nat.reduceLeDiff, Nat.reduceMul, Nat.reduceLT, if_true, if_false, true_and, and_true, and_self, Nat.reduceBEq, QOp.loads, boxO, bslO, buildO, cutL, fillV, putL, w20, v20]
    refine stepC.of (l1Below_ok _ _ _ kK) ?_
    rintro _ K2 ⟨y, rfl, y1, y2, _, g2, k2⟩
    have B2 := B.stepG g2 (by omega)
    have e2 : Ext h K2 := g2.ext eK (by omega)
    have hz2 := g2.1
    simp (maxSteps := 4000000) (disch := omega) only [ah, am, Nat.reduceEqDiff, reduceCtorEq, Nat.reduceAdd, Nat.reduceLeDiff, Nat.reduceMul, Nat.reduceLT, if_true, if_false, true_and, and_true, and_self, Nat.reduceBEq, QOp.loads, boxO, bslO, buildO, cutL, fillV, putL, w20, v20]
    refine stepC.of (l1Once_ok _ _ _ k2) ?_
    rintro _ K3 ⟨b, rfl, g3, k3⟩
    have B3 := B2.stepG g3 (by omega)
    have e3 : Ext h K3 := g3.ext e2 (by omega)
    have hz3 := g3.1
    cases b with
    | false =>
      simp (maxSteps := 4000000) (disch := omega) only [ah, am, Nat.reduceEqDiff, reduceCtorEq, Nat.reduceAdd, Nat.reduceLeDiff, Nat.reduceMul, Nat.reduceLT, if_true, if_false, true_and, and_true, and_self, Nat.reduceBEq, QOp.loads, boxO, bslO, buildO, cutL, fillV, putL, w20, v20]
      exact last _ _ B3 hg1 (by omega) k3 e3 (by omega) hr
    | true =>
      simp (maxSteps := 4000000) (disch := omega) only [ah, am, Nat.reduceEqDiff, reduceCtorEq, Nat.reduceAdd, Nat.reduceLeDiff, Nat.reduceMul, Nat.reduceLT, if_true, if_false, true_and, and_true, and_self, Nat.reduceBEq, QOp.loads, boxO, bslO, buildO, cutL, fillV, putL, w20, v20]
      refine stepC.of (l1Below_ok _ _ _ (k3.ext (Ext.more _ _))) ?_
      rintro _ K4 ⟨z, rfl, z1, z2, _, g4, k4⟩
      have z3 := z2 (by omega)
      obtain ⟨u, hu⟩ := pick_lits g4 k3.lt z1 (by simpa using z3) rfl
      have B4 := (B3.ext (Ext.more K3 [[.int .i64 (-1), .int .i64 0, .int .i64 1000, .int .i64 1001]])).stepG g4 (by omega)
      have e4 : Ext h K4 := g4.ext (e3.trans (Ext.more _ _)) (by omega)
      have hz4 := g4.1
      simp only [size_more, List.length_cons, List.length_nil, Nat.zero_add] at hz4
      simp (maxSteps := 4000000) (disch := omega) only [ah, am, Nat.reduceEqDiff, reduceCtorEq, Nat.reduceAdd, Nat.reduceLeDiff, Nat.reduceMul, Nat.reduceLT, if_true, if_false, true_and, and_true, and_self, Nat.reduceBEq, QOp.loads, boxO, bslO, buildO, cutL, fillV, putL, w20, v20, Nat.mul_one, hu]
      exact last _ _ B4 hg1 (by omega) k4 e4 (by omega) hr
end Go.Proofs.Ytmippcfdakjhfaa
