import Derived.Test.YtknpombiomnkbaaI8
import Derived.Test.YtknpombiomnkbaaI11
import Derived.Test.YtknpombiomnkbaaJ1
namespace Go.Proofs.Ytknpombiomnkbaa
open Go Go.Ah
set_option linter.unusedSimpArgs false
set_option linter.unusedVariables false
set_option maxRecDepth 10000
set_option maxHeartbeats 4000000
/-! 18 loop.example/g00066/impl.Reverse: parameters 1, live [0], slots [0:track, 1:track, 4:out, 5:_, 6:c, 7:n, 8:one] -/
def c18_0 : List SOper := [⟨some 2, .q (.mv (.c (.slice none 0 0))), none⟩, ⟨some 3, .q (.mv (.c (.bool false))), none⟩]
def c18_1 : List SOper := [⟨some 9, .q (.mv (.t 0)), none⟩, ⟨some 10, .e (.call 50 [(.t 9)]), none⟩, ⟨some 11, .q (.not (.t 10)), none⟩, ⟨some 12, .q (.mv (.t 11)), none⟩, ⟨some 13, .q (.mv (.t 0)), some (12, false)⟩, ⟨some 14, .e (.call 60 [(.t 13)]), some (12, false)⟩, ⟨some 15, .q (.bin .gtr (.t 14) (.c (.int .i64 2000))), some (12, false)⟩, ⟨some 16, .q (.pick (.t 12) (.c (.bool true)) (.t 15)), none⟩]
def c18_2 : List SOper := [⟨some 2, .q (.mv (.c (.slice none 0 0))), none⟩, ⟨some 3, .q (.mv (.c (.bool false))), none⟩]
def c18_3 : SCode := .seq (.region c18_2 [2, 3]) .ret
def c18_4 : SCode := .cond (.t 16) c18_3 .skip
def c18_5 : SCode := .seq (.region c18_1 [0, 16]) c18_4
def c18_6 : List SOper := [⟨some 17, .a (.bsl 0 3 [] []), none⟩, ⟨some 4, .q (.mv (.t 17)), none⟩]
def c18_7 : List SOper := [⟨some 18, .q (.mv (.t 0)), none⟩, ⟨some 19, .q (.len (.t 18)), none⟩, ⟨some 20, .q (.mv (.c (.int .i64 0))), none⟩]
def c18_8 : List SOper := [⟨some 21, .q (.bin .lss (.t 20) (.t 19)), none⟩]
def c18_9 : SCode := .cond (.t 21) .skip (.exit 0)
def c18_10 : List SOper := [⟨some 22, .q (.ia 3 (.t 18) (.t 20)), none⟩, ⟨some 23, .q (.ldn 3 (.t 22)), none⟩, ⟨some 6, .a (.new [(.int .i64 0), (.int .i64 0), (.int .i64 0)]), none⟩, ⟨none, .e (.st 3 (.t 6) (.t 23)), none⟩]
def c18_11 : List SOper := [⟨some 24, .q (.fa 2 (.t 6)), none⟩, ⟨some 25, .q (.ld (.t 24)), none⟩, ⟨some 26, .q (.mv (.c (.int .i64 0))), none⟩]
def c18_12 : List SOper := [⟨some 27, .q (.bin .lss (.t 26) (.t 25)), none⟩]
def c18_13 : SCode := .cond (.t 27) .skip (.exit 2)
def c18_14 : List SOper := [⟨some 28, .q (.mv (.t 26)), none⟩, ⟨some 7, .q (.mv (.t 28)), none⟩]
def c18_15 : List SOper := [⟨some 29, .q (.ldn 3 (.t 6)), none⟩, ⟨some 30, .q (.mv (.t 7)), none⟩, ⟨some 31, .e (.call 61 [(.t 29), (.t 30)]), none⟩, ⟨some 8, .a (.new [(.int .i64 0), (.int .i64 0), (.int .i64 0)]), none⟩, ⟨none, .e (.st 3 (.t 8) (.t 31)), none⟩]
def c18_16 : List SOper := [⟨some 32, .q (.fa 2 (.t 8)), none⟩, ⟨none, .e (.st 1 (.t 32) (.c (.int .i64 1))), none⟩]
def c18_17 : List SOper := [⟨some 33, .q (.mv (.t 4)), none⟩, ⟨some 34, .q (.ldn 3 (.t 8)), none⟩, ⟨some 35, .a (.bsl 1 3 [(.int .i64 0), (.int .i64 0), (.int .i64 0)] [(0, 3, (.t 34))]), none⟩, ⟨some 36, .e (.app 24 3 (.t 33) (.t 35)), none⟩, ⟨some 4, .q (.mv (.t 36)), none⟩]
def c18_18 : SCode := .seq (.region c18_16 [4, 6, 8, 18, 19, 20, 25, 26]) (.region c18_17 [4, 6, 18, 19, 20, 25, 26])
def c18_19 : SCode := .seq (.region c18_15 [4, 6, 8, 18, 19, 20, 25, 26]) c18_18
def c18_20 : SCode := .seq (.region c18_14 [4, 6, 7, 18, 19, 20, 25, 26]) c18_19
def c18_21 : SCode := .block 3 c18_20
def c18_22 : List SOper := [⟨some 37, .q (.bin .add (.t 26) (.c (.int .i64 1))), none⟩, ⟨some 26, .q (.mv (.t 37)), none⟩]
def c18_23 : SCode := .seq c18_21 (.region c18_22 [4, 6, 18, 19, 20, 25, 26])
def c18_24 : SCode := .seq c18_13 c18_23
def c18_25 : SCode := .seq (.region c18_12 [4, 6, 18, 19, 20, 25, 26, 27]) c18_24
def c18_26 : SCode := .loop c18_25
def c18_27 : SCode := .block 2 c18_26
def c18_28 : SCode := .seq (.region c18_11 [4, 6, 18, 19, 20, 25, 26]) c18_27
def c18_29 : SCode := .seq (.region c18_10 [4, 6, 18, 19, 20]) c18_28
def c18_30 : SCode := .block 1 c18_29
def c18_31 : List SOper := [⟨some 38, .q (.bin .add (.t 20) (.c (.int .i64 1))), none⟩, ⟨some 20, .q (.mv (.t 38)), none⟩]
def c18_32 : SCode := .seq c18_30 (.region c18_31 [4, 18, 19, 20])
def c18_33 : SCode := .seq c18_9 c18_32
def c18_34 : SCode := .seq (.region c18_8 [4, 18, 19, 20, 21]) c18_33
def c18_35 : SCode := .loop c18_34
def c18_36 : SCode := .block 0 c18_35
def c18_37 : SCode := .seq (.region c18_7 [4, 18, 19, 20]) c18_36
def c18_38 : List SOper := [⟨some 39, .q (.mv (.t 4)), none⟩, ⟨some 40, .e (.call 62 [(.t 39)]), none⟩]
def c18_39 : List SOper := [⟨some 41, .q (.mv (.t 4)), none⟩, ⟨some 42, .a (.bsl 1 1 [(.slice none 0 0)] [(0, 1, (.t 41))]), none⟩, ⟨some 43, .e (.call 54 [(.t 42)]), none⟩, ⟨some 44, .q (.ext (.t 43) 0), none⟩, ⟨some 45, .q (.ext (.t 43) 1), none⟩, ⟨some 2, .q (.mv (.t 44)), none⟩, ⟨some 3, .q (.mv (.t 45)), none⟩]
def c18_40 : SCode := .seq (.region c18_39 [2, 3]) .ret
def c18_41 : SCode := .seq (.region c18_38 [4]) c18_40
def c18_42 : SCode := .seq c18_37 c18_41
def c18_43 : SCode := .seq (.region c18_6 [0, 4]) c18_42
def c18_44 : SCode := .seq c18_5 c18_43
def c18_45 : SCode := .seq (.region c18_0 [0]) c18_44
def c18 : SCode := c18_45
theorem w18 : type_of% (And.intro (uR Try.prog c18_0.eq_1) (And.intro (uR Try.prog c18_1.eq_1) (And.intro (uR Try.prog c18_2.eq_1) (And.intro (uC Try.prog c18_3.eq_1) (And.intro (uC Try.prog c18_4.eq_1) (And.intro (uC Try.prog c18_5.eq_1) (And.intro (uR Try.prog c18_6.eq_1) (And.intro (uR Try.prog c18_7.eq_1) (And.intro (uR Try.prog c18_8.eq_1) (And.intro (uC Try.prog c18_9.eq_1) (And.intro (uR Try.prog c18_10.eq_1) (And.intro (uR Try.prog c18_11.eq_1) (And.intro (uR Try.prog c18_12.eq_1) (And.intro (uC Try.prog c18_13.eq_1) (And.intro (uR Try.prog c18_14.eq_1) (And.intro (uR Try.prog c18_15.eq_1) (And.intro (uR Try.prog c18_16.eq_1) (And.intro (uR Try.prog c18_17.eq_1) (And.intro (uC Try.prog c18_18.eq_1) (And.intro (uC Try.prog c18_19.eq_1) (And.intro (uC Try.prog c18_20.eq_1) (And.intro (uC Try.prog c18_21.eq_1) (And.intro (uR Try.prog c18_22.eq_1) (And.intro (uC Try.prog c18_23.eq_1) (And.intro (uC Try.prog c18_24.eq_1) (And.intro (uC Try.prog c18_25.eq_1) (And.intro (uC Try.prog c18_26.eq_1) (And.intro (uC Try.prog c18_27.eq_1) (And.intro (uC Try.prog c18_28.eq_1) (And.intro (uC Try.prog c18_29.eq_1) (And.intro (uC Try.prog c18_30.eq_1) (And.intro (uR Try.prog c18_31.eq_1) (And.intro (uC Try.prog c18_32.eq_1) (And.intro (uC Try.prog c18_33.eq_1) (And.intro (uC Try.prog c18_34.eq_1) (And.intro (uC Try.prog c18_35.eq_1) (And.intro (uC Try.prog c18_36.eq_1) (And.intro (uC Try.prog c18_37.eq_1) (And.intro (uR Try.prog c18_38.eq_1) (And.intro (uR Try.prog c18_39.eq_1) (And.intro (uC Try.prog c18_40.eq_1) (And.intro (uC Try.prog c18_41.eq_1) (And.intro (uC Try.prog c18_42.eq_1) (And.intro (uC Try.prog c18_43.eq_1) (And.intro (uC Try.prog c18_44.eq_1) (And.intro (uC Try.prog c18_45.eq_1) (uC Try.prog c18.eq_1))))))))))))))))))))))))))))))))))))))))))))))) := (And.intro (uR Try.prog c18_0.eq_1) (And.intro (uR Try.prog c18_1.eq_1) (And.intro (uR Try.prog c18_2.eq_1) (And.intro (uC Try.prog c18_3.eq_1) (And.intro (uC Try.prog c18_4.eq_1) (And.intro (uC Try.prog c18_5.eq_1) (And.intro (uR Try.prog c18_6.eq_1) (And.intro (uR Try.prog c18_7.eq_1) (And.intro (uR Try.prog c18_8.eq_1) (And.intro (uC Try.prog c18_9.eq_1) (And.intro (uR Try.prog c18_10.eq_1) (And.intro (uR Try.prog c18_11.eq_1) (And.intro (uR Try.prog c18_12.eq_1) (And.intro (uC Try.prog c18_13.eq_1) (And.intro (uR Try.prog c18_14.eq_1) (And.intro (uR Try.prog c18_15.eq_1) (And.intro (uR Try.prog c18_16.eq_1) (And.intro (uR Try.prog c18_17.eq_1) (And.intro (uC Try.prog c18_18.eq_1) (And.intro (uC Try.prog c18_19.eq_1) (And.intro (uC Try.prog c18_20.eq_1) (And.intro (uC Try.prog c18_21.eq_1) (And.intro (uR Try.prog c18_22.eq_1) (And.intro (uC Try.prog c18_23.eq_1) (And.intro (uC Try.prog c18_24.eq_1) (And.intro (uC Try.prog c18_25.eq_1) (And.intro (uC Try.prog c18_26.eq_1) (And.intro (uC Try.prog c18_27.eq_1) (And.intro (uC Try.prog c18_28.eq_1) (And.intro (uC Try.prog c18_29.eq_1) (And.intro (uC Try.prog c18_30.eq_1) (And.intro (uR Try.prog c18_31.eq_1) (And.intro (uC Try.prog c18_32.eq_1) (And.intro (uC Try.prog c18_33.eq_1) (And.intro (uC Try.prog c18_34.eq_1) (And.intro (uC Try.prog c18_35.eq_1) (And.intro (uC Try.prog c18_36.eq_1) (And.intro (uC Try.prog c18_37.eq_1) (And.intro (uR Try.prog c18_38.eq_1) (And.intro (uR Try.prog c18_39.eq_1) (And.intro (uC Try.prog c18_40.eq_1) (And.intro (uC Try.prog c18_41.eq_1) (And.intro (uC Try.prog c18_42.eq_1) (And.intro (uC Try.prog c18_43.eq_1) (And.intro (uC Try.prog c18_44.eq_1) (And.intro (uC Try.prog c18_45.eq_1) (uC Try.prog c18.eq_1)))))))))))))))))))))))))))))))))))))))))))))))
def v18 : List RV := [.t 2, .t 3]
theorem s18 : slimF Try.prog Try.f18 = some (c18.bare, v18) := by kernel_rfl

theorem revPiece_ok (k : Clip) (hk : clipOk k) : ∀ a ∈ revPiece k, clipOk a := by
  intro a ha
  unfold revPiece at ha
  split at ha
  · simp only [List.mem_singleton] at ha; subst ha; exact hk
  · rename_i hg
    simp only [framesR, List.mem_map, List.mem_range] at ha
    obtain ⟨d, hd, rfl⟩ := ha
    simp only [clipOk, frameR] at hk ⊢
    exact ⟨by omega, by omega, by omega, by omega, by omega, by omega, by omega, Or.inl hg⟩
/-- Gaps of one frame each, and one gap. -/
theorem gaps_join (n : Nat) : ∀ out, (List.replicate (n + 1) (⟨0, 0, 1⟩ : Clip)).foldl joinStep out = joinStep out ⟨0, 0, (n : Int) + 1⟩ := by
  induction n with
  | zero => intro out; rfl
  | succ n ih =>
    intro out
    rw [List.replicate_succ', List.foldl_append, ih]
    simp only [List.foldl_cons, List.foldl_nil]
    rcases snoc_cases out with rfl | ⟨o, a, rfl⟩
    · rw [joinStep_nil, joinStep_nil]
      have := joinStep_snoc [] ⟨0, 0, (n : Int) + 1⟩ ⟨0, 0, 1⟩
      simp only [List.nil_append, true_or, and_self, if_true] at this
      rw [this]; simp
    · rw [joinStep_snoc, joinStep_snoc]
      by_cases h : a.src = 0
      · simp only [h, true_or, and_self, if_true]
        rw [joinStep_snoc]; simp [Int.add_assoc]
      · simp only [h, false_and, if_false]
        rw [joinStep_snoc]; simp
theorem frames_turn (k : Clip) (hg : k.src ≠ 0) : (framesI k).reverse = framesR k := by
  unfold framesI framesR
  apply List.ext_getElem?
  intro d
  by_cases hd : d < k.len.toNat
  · rw [List.getElem?_reverse (by simpa using hd)]
    simp only [List.length_map, List.length_range, List.getElem?_map]
    rw [List.getElem?_range (by omega), List.getElem?_range hd]
    simp only [Option.map_some, frameI, frameR, if_neg hg, Option.some.injEq, Clip.mk.injEq, and_true, true_and]
    omega
  · rw [List.getElem?_eq_none (by simp; omega), List.getElem?_eq_none (by simp; omega)]
theorem frames_gap (k : Clip) (hk : clipOk k) (hg : k.src = 0) : (framesI k).reverse = List.replicate k.len.toNat ⟨0, 0, 1⟩ := by
  have hi : k.inn = 0 := by simp only [clipOk] at hk; omega
  have : framesI k = List.replicate k.len.toNat ⟨0, 0, 1⟩ := by
    unfold framesI frameI
    simp only [hg, hi, if_true]
    exact List.map_const' (l := List.range k.len.toNat) (b := (⟨0, 0, 1⟩ : Clip)) |>.trans (by simp)
  rw [this, List.reverse_replicate]
theorem piece_join (k : Clip) (hk : clipOk k) (out : List Clip) : (framesI k).reverse.foldl joinStep out = (revPiece k).foldl joinStep out := by
  by_cases hg : k.src = 0
  · rw [frames_gap k hk hg, show revPiece k = [k] from if_pos hg]
    have hk2 := hk
    simp only [clipOk] at hk2
    obtain ⟨n, hn⟩ : ∃ n, k.len.toNat = n + 1 := ⟨k.len.toNat - 1, by omega⟩
    rw [hn, gaps_join]
    have : (⟨0, 0, (n : Int) + 1⟩ : Clip) = k := by obtain ⟨a, b, c⟩ := k; simp at hg hk2 hn ⊢; omega
    rw [this]; rfl
  · rw [frames_turn k hg, show revPiece k = framesR k from if_neg hg]
theorem rev_join (l : List Clip) (hl : ∀ k ∈ l, clipOk k) : join (l.flatMap framesI).reverse = join (revS l) := by
  have key : ∀ (l : List Clip), (∀ k ∈ l, clipOk k) → ∀ out, (l.flatMap fun k => (framesI k).reverse).foldl joinStep out = (l.flatMap revPiece).foldl joinStep out := by
    intro l
    induction l with
    | nil => intro _ out; rfl
    | cons k l ih =>
      intro h out
      rw [List.flatMap_cons, List.flatMap_cons, List.foldl_append, List.foldl_append, piece_join k (h k (by simp)), ih (fun a ha => h a (by simp [ha]))]
  unfold revS join
  rw [List.reverse_flatMap]
  exact key l.reverse (fun k hk => hl k (by simpa using hk)) []
theorem Reverse_ok (h : Heap) (v : Value) (l : List Clip) (s : SlT h encClip 3 v l) (hl : l.length ≤ 1100000) :
    ACall Try.prog 18 [v] h fun r h' => Pair h h' r (revF l) := by
  refine ACall.of Try.func18 s18 (of_decide_eq_true rfl) ?_
  simp (maxSteps := 4000000) (disch := omega) only [ah, am, Nat.reduceEqDiff, reduceCtorEq, Nat.reduceAdd, Nat.reduceLeDiff, Nat.reduceMul, Nat.reduceLT, if_true, if_false, true_and, and_true, and_self, Nat.reduceBEq, QOp.loads, boxO, bslO, buildO, cutL, fillV, putL, w18, v18]
  refine stepC.of (implTrackOk_ok _ _ _ s (by omega)) ?_
  rintro _ H1 ⟨e1, rfl⟩
  have S1 := s.ext e1
  by_cases ht : trackOk l
  · have ht' : decide (trackOk l) = true := decide_eq_true ht
    have hlen := ht.1; have hok := ht.2.1
    simp (maxSteps := 4000000) (disch := omega) only [ah, am, Nat.reduceEqDiff, reduceCtorEq, Nat.reduceAdd, Nat.reduceLeDiff, Nat.reduceMul, Nat.reduceLT, if_true, if_false, true_and, and_true, and_self, Nat.reduceBEq, QOp.loads, boxO, bslO, buildO, cutL, fillV, putL, w18, v18, ht']
    refine stepC.of (long_ok _ _ _ S1 hlen hok) ?_
    rintro _ H2 ⟨e2, rfl⟩
    have S2 := S1.ext e2
    by_cases hs : sumLen l ≤ 2000
    · have hs' : decide (2000 < sumLen l) = false := decide_eq_false (by omega)
      have hT : revF l = editF (revS l) := if_pos ⟨ht, hs⟩
      have R := S2.rulesN
      simp (maxSteps := 4000000) (disch := omega) only [ah, am, Nat.reduceEqDiff, reduceCtorEq, Nat.reduceAdd, Nat.reduceLeDiff, Nat.reduceMul, Nat.reduceLT, if_true, if_false, true_and, and_true, and_self, Nat.reduceBEq, QOp.loads, boxO, bslO, buildO, cutL, fillV, putL, w18, v18, ht', hs', R, i64w]
      have bound : ∀ i, ((l.take i).flatMap framesI).length ≤ 2000 := by
        intro i
        have h1 := flatLen framesI (l.take i) (fun k hk => by
          have := hok k (List.mem_of_mem_take hk)
          simp only [clipOk] at this
          simp [framesI]; omega)
        have h2 := sumLen_take_le l i hok
        omega
      refine SW_loop_up (fun i E H => ∃ ov, E = [(4, ov), (18, v), (19, .int .i64 l.length), (20, .int .i64 i)] ∧ Fresh H2 H encClip 3 ov ((l.take i).flatMap framesI)) l.length 0 (by omega)
        ⟨.slice (some ⟨H2.size, 0, none⟩) 0 3, by simp, by simpa using Fresh.new0 H2 encClip_len (by omega)⟩ ?_
      rintro i E H hi ⟨ov, rfl, F⟩
      have R := (S2.ext F.1).rulesN
      have W : IntKind.i64.wrap ((i : Int) + 1) = ((i + 1 : Nat) : Int) := i64e (by omega) (by omega)
      simp (maxSteps := 4000000) (disch := omega) only [ah, am, Nat.reduceEqDiff, reduceCtorEq, Nat.reduceAdd, Nat.reduceLeDiff, Nat.reduceMul, Nat.reduceLT, if_true, if_false, true_and, and_true, and_self, Nat.reduceBEq, QOp.loads, boxO, bslO, buildO, cutL, fillV, putL, w18, v18, R]
      refine stepI.split (fun hp => ?_) (fun hp => ?_)
      · have hi' : i < l.length := by omega
        have K := hok _ (List.getElem_mem hi')
        have Bd := bound (i + 1)
        rw [List.take_succ_eq_append_getElem hi', List.flatMap_append, List.flatMap_cons, List.flatMap_nil, List.append_nil] at Bd ⊢
        generalize (l.take i).flatMap framesI = out at *
        have K2 := K
        simp only [clipOk] at K2
        have F0 : Fk [] H2 (H.more [encClip l[i]]) encClip 3 ov out [(H.size, encClip l[i])] := (Fk.of F).more [encClip l[i]]
        simp (maxSteps := 4000000) (disch := omega) only [ah, am, Nat.reduceEqDiff, reduceCtorEq, Nat.reduceAdd, Nat.reduceLeDiff, Nat.reduceMul, Nat.reduceLT, if_true, if_false, true_and, and_true, and_self, Nat.reduceBEq, QOp.loads, boxO, bslO, buildO, cutL, fillV, putL, w18, v18, R, encClip]
        refine SW_loop_up (fun d E H3 => ∃ ov, E = [(4, ov), (6, .pointer (some ⟨H.size, 0, none⟩)), (18, v), (19, .int .i64 l.length), (20, .int .i64 i), (25, .int .i64 l[i].len), (26, .int .i64 d)] ∧
          Fk [] H2 H3 encClip 3 ov (out ++ (List.range d).map (frameI l[i])) [(H.size, encClip l[i])]) l[i].len.toNat 0 (by omega) ⟨ov, by simp, by simp only [List.range_zero, List.map_nil, List.append_nil]; exact F0⟩ ?_
        rintro d E H3 hd ⟨ov2, rfl, F2⟩
        have X := F2.ld (i := H.size) (cs := encClip l[i]) (by simp)
        simp only [encClip] at X
        simp (maxSteps := 4000000) (disch := omega) only [ah, am, Nat.reduceEqDiff, reduceCtorEq, Nat.reduceAdd, Nat.reduceLeDiff, Nat.reduceMul, Nat.reduceLT, if_true, if_false, true_and, and_true, and_self, Nat.reduceBEq, QOp.loads, boxO, bslO, buildO, cutL, fillV, putL, w18, v18, X]
        refine stepI.split (fun hq => ?_) (fun hq => ?_)
        · have hd' : d < l[i].len.toNat := by omega
          have fo := from_ok H3 l[i] d K (by omega)
          simp only [encClip] at fo
          simp (maxSteps := 4000000) (disch := omega) only [ah, am, Nat.reduceEqDiff, reduceCtorEq, Nat.reduceAdd, Nat.reduceLeDiff, Nat.reduceMul, Nat.reduceLT, if_true, if_false, true_and, and_true, and_self, Nat.reduceBEq, QOp.loads, boxO, bslO, buildO, cutL, fillV, putL, w18, v18, X, i64w]
          refine stepC.of fo ?_
          rintro _ H4 ⟨e4, rfl⟩
          have F3 := F2.step e4
          have X3 := F3.ld (i := H.size) (cs := encClip l[i]) (by simp)
          simp only [encClip] at X3
          obtain ⟨v3, H5, ea, F4⟩ := F3.app1 [encClip (frameI l[i] d)] (frameI l[i] d) (bytes := 24) (by simp [framesI] at Bd; simp; omega)
          simp only [boxesAt, List.cons_append, List.append_nil, List.nil_append, List.length_nil, List.length_cons, Nat.zero_add, Nat.add_zero, encClip, frameI] at ea
          have W2 : IntKind.i64.wrap ((d : Int) + 1) = ((d + 1 : Nat) : Int) := i64e (by omega) (by omega)
          simp (maxSteps := 4000000) (disch := omega) only [ah, am, Nat.reduceEqDiff, reduceCtorEq, Nat.reduceAdd, Nat.reduceLeDiff, Nat.reduceMul, Nat.reduceLT, if_true, if_false, true_and, and_true, and_self, Nat.reduceBEq, QOp.loads, boxO, bslO, buildO, cutL, fillV, putL, w18, v18, X, X3, i64w, ea, W2, fromC]
          refine ⟨hd', _, rfl, ?_⟩
          rw [List.range_succ, List.map_append, ← List.append_assoc]; exact F4.sub (fun p hp => by simp at hp; subst hp; simp)
        · simp (maxSteps := 4000000) (disch := omega) only [ah, am, Nat.reduceEqDiff, reduceCtorEq, Nat.reduceAdd, Nat.reduceLeDiff, Nat.reduceMul, Nat.reduceLT, if_true, if_false, true_and, and_true, and_self, Nat.reduceBEq, QOp.loads, boxO, bslO, buildO, cutL, fillV, putL, w18, v18, X, W]
          obtain rfl : d = l[i].len.toNat := by omega
          exact ⟨hi', _, rfl, F2.fresh⟩
      · simp (maxSteps := 4000000) (disch := omega) only [ah, am, Nat.reduceEqDiff, reduceCtorEq, Nat.reduceAdd, Nat.reduceLeDiff, Nat.reduceMul, Nat.reduceLT, if_true, if_false, true_and, and_true, and_self, Nat.reduceBEq, QOp.loads, boxO, bslO, buildO, cutL, fillV, putL, w18, v18]
        obtain rfl : i = l.length := by omega
        have Bd := bound l.length
        rw [List.take_length] at F Bd
        refine stepC.of (slReverse_ok _ _ _ _ F (by omega)) ?_
        intro _ H4 F4
        have A : ∀ k ∈ (l.flatMap framesI).reverse, clipOk k := by
          intro k hk
          simp only [List.mem_reverse, List.mem_flatMap] at hk
          obtain ⟨a, ha, hk⟩ := hk
          exact framesI_ok a (hok a ha) k hk
        have o1 := one_slice _ _ _ F4.slt
        have c1 := cells_sl F4.slt
        simp (maxSteps := 4000000) (disch := omega) only [ah, am, Nat.reduceEqDiff, reduceCtorEq, Nat.reduceAdd, Nat.reduceLeDiff, Nat.reduceMul, Nat.reduceLT, if_true, if_false, true_and, and_true, and_self, Nat.reduceBEq, QOp.loads, boxO, bslO, buildO, cutL, fillV, putL, w18, v18, o1, c1, size_mk, List.reduceReplicate]
        refine stepC.of (edited_ok _ _ _ (Rows.one F4.slt) (by simp) (by simp at Bd ⊢; omega) (fun k hk => (A k (by simpa using hk)).in)) ?_
        rintro _ H6 ⟨rv, rfl, F6⟩
        simp (maxSteps := 4000000) (disch := omega) only [ah, am, Nat.reduceEqDiff, reduceCtorEq, Nat.reduceAdd, Nat.reduceLeDiff, Nat.reduceMul, Nat.reduceLT, if_true, if_false, true_and, and_true, and_self, Nat.reduceBEq, QOp.loads, boxO, bslO, buildO, cutL, fillV, putL, w18, v18]
        have hE : editI [(l.flatMap framesI).reverse].flatten = editF (revS l) := by
          rw [List.flatten_cons, List.flatten_nil, List.append_nil]
          unfold editI editF
          rw [rev_join l hok]
          have A2 : ∀ k ∈ revS l, clipOk k := by
            intro k hk
            simp only [revS, List.mem_flatMap, List.mem_reverse] at hk
            obtain ⟨a, ha, hk⟩ := hk
            exact revPiece_ok a (hok a ha) k hk
          by_cases hj : trackOk (join (revS l))
          · rw [if_pos hj, if_pos ⟨A2, hj⟩]
          · rw [if_neg hj, if_neg fun q => hj q.2]
        rw [hE] at F6 ⊢
        rw [hT]
        exact ⟨rv, rfl, F6.mono ((e1.trans e2).trans (F4.1.trans (Ext.more _ _)))⟩
    · have hs' : decide (2000 < sumLen l) = true := decide_eq_true (by omega)
      have hT : revF l = ([], false) := if_neg fun q => hs q.2
      simp (maxSteps := 4000000) (disch := omega) only [ah, am, Nat.reduceEqDiff, reduceCtorEq, Nat.reduceAdd, Nat.reduceLeDiff, Nat.reduceMul, Nat.reduceLT, if_true, if_false, true_and, and_true, and_self, Nat.reduceBEq, QOp.loads, boxO, bslO, buildO, cutL, fillV, putL, w18, v18, ht', hs']
      rw [hT]
      exact ⟨_, rfl, (Fresh.nil _ encClip_len (by omega)).mono (e1.trans e2)⟩
  · have ht' : decide (trackOk l) = false := decide_eq_false ht
    have hT : revF l = ([], false) := if_neg fun q => ht q.1
    simp (maxSteps := 4000000) (disch := omega) only [ah, am, Nat.reduceEqDiff, reduceCtorEq, Nat.reduceAdd, Nat.reduceLeDiff, Nat.reduceMul, Nat.reduceLT, if_true, if_false, true_and, and_true, and_self, Nat.reduceBEq, QOp.loads, boxO, bslO, buildO, cutL, fillV, putL, w18, v18, ht']
    rw [hT]
    exact ⟨_, rfl, (Fresh.nil _ encClip_len (by omega)).mono e1⟩
end Go.Proofs.Ytknpombiomnkbaa
