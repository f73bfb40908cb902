import Derived.Test.YtbnppofkpgfhnaaI7
import Derived.Test.YtbnppofkpgfhnaaS9
namespace Go.Proofs.Ytbnppofkpgfhnaa
open Go Go.Ah
set_option linter.unusedSimpArgs false
set_option linter.unusedVariables false
set_option maxRecDepth 10000
set_option maxHeartbeats 4000000
/-! 59 (loop.example/g00066/impl.Clip).from: parameters 2, live [0, 1], slots [0:c, 1:n, 2:c, 3:n] -/
def c59_0 : List SOper := [⟨some 2, .a (.box (.t 0)), none⟩, ⟨some 4, .a (.new [(.int .i64 0), (.int .i64 0), (.int .i64 0)]), none⟩]
def c59_1 : List SOper := [⟨some 5, .q (.fa 2 (.t 2)), none⟩, ⟨some 6, .q (.ld (.t 5)), none⟩, ⟨some 7, .q (.mv (.t 1)), none⟩, ⟨some 8, .q (.bin .sub (.t 6) (.t 7)), none⟩, ⟨some 9, .q (.fa 2 (.t 2)), none⟩, ⟨none, .e (.st 1 (.t 9) (.t 8)), none⟩]
def c59_2 : List SOper := [⟨some 10, .q (.ldn 3 (.t 2)), none⟩, ⟨some 11, .e (.call 78 [(.t 10)]), none⟩, ⟨some 12, .q (.not (.t 11)), none⟩]
def c59_3 : List SOper := [⟨some 13, .q (.fa 1 (.t 2)), none⟩, ⟨some 14, .q (.ld (.t 13)), none⟩, ⟨some 15, .q (.mv (.t 1)), none⟩, ⟨some 16, .q (.bin .add (.t 14) (.t 15)), none⟩, ⟨some 17, .q (.fa 1 (.t 2)), none⟩, ⟨none, .e (.st 1 (.t 17) (.t 16)), none⟩]
def c59_4 : SCode := .cond (.t 12) (.region c59_3 [2, 4]) .skip
def c59_5 : SCode := .seq (.region c59_2 [1, 2, 4, 12]) c59_4
def c59_6 : List SOper := [⟨some 18, .q (.ldn 3 (.t 2)), none⟩, ⟨none, .e (.st 3 (.t 4) (.t 18)), none⟩]
def c59_7 : SCode := .seq (.region c59_6 [4]) .ret
def c59_8 : SCode := .seq c59_5 c59_7
def c59_9 : SCode := .seq (.region c59_1 [1, 2, 4]) c59_8
def c59_10 : SCode := .seq (.region c59_0 [1, 2, 4]) c59_9
def c59 : SCode := c59_10
theorem w59 : type_of% (And.intro (uR Try.prog c59_0.eq_1) (And.intro (uR Try.prog c59_1.eq_1) (And.intro (uR Try.prog c59_2.eq_1) (And.intro (uR Try.prog c59_3.eq_1) (And.intro (uC Try.prog c59_4.eq_1) (And.intro (uC Try.prog c59_5.eq_1) (And.intro (uR Try.prog c59_6.eq_1) (And.intro (uC Try.prog c59_7.eq_1) (And.intro (uC Try.prog c59_8.eq_1) (And.intro (uC Try.prog c59_9.eq_1) (And.intro (uC Try.prog c59_10.eq_1) (uC Try.prog c59.eq_1)))))))))))) := (And.intro (uR Try.prog c59_0.eq_1) (And.intro (uR Try.prog c59_1.eq_1) (And.intro (uR Try.prog c59_2.eq_1) (And.intro (uR Try.prog c59_3.eq_1) (And.intro (uC Try.prog c59_4.eq_1) (And.intro (uC Try.prog c59_5.eq_1) (And.intro (uR Try.prog c59_6.eq_1) (And.intro (uC Try.prog c59_7.eq_1) (And.intro (uC Try.prog c59_8.eq_1) (And.intro (uC Try.prog c59_9.eq_1) (And.intro (uC Try.prog c59_10.eq_1) (uC Try.prog c59.eq_1))))))))))))
def v59 : List RV := [.c 4 (some 3)]
theorem s59 : slimF Try.prog Try.f59 = some (c59.bare, v59) := by kernel_rfl
/-! 47 loop.example/g00066/impl.part: parameters 3, live [0, 1, 2], slots [0:track, 1:from, 2:to, 3:track, 4:from, 5:to, 7:out, 8:_, 9:c, 10:x, 11:y, 12:p] -/
def c47_0 : List SOper := [⟨some 6, .q (.mv (.c (.slice none 0 0))), none⟩]
def c47_1 : List SOper := [⟨some 13, .a (.bsl 0 3 [] []), none⟩, ⟨some 7, .q (.mv (.t 13)), none⟩]
def c47_2 : List SOper := [⟨some 14, .q (.mv (.t 0)), none⟩, ⟨some 15, .q (.len (.t 14)), none⟩, ⟨some 16, .q (.mv (.c (.int .i64 0))), none⟩]
def c47_3 : List SOper := [⟨some 17, .q (.bin .lss (.t 16) (.t 15)), none⟩]
def c47_4 : SCode := .cond (.t 17) .skip (.exit 0)
def c47_5 : List SOper := [⟨some 18, .q (.ia 3 (.t 14) (.t 16)), none⟩, ⟨some 19, .q (.ldn 3 (.t 18)), none⟩, ⟨some 9, .a (.new [(.int .i64 0), (.int .i64 0), (.int .i64 0)]), none⟩, ⟨none, .e (.st 3 (.t 9) (.t 19)), none⟩]
def c47_6 : List SOper := [⟨some 20, .q (.mv (.t 1)), none⟩, ⟨some 21, .q (.mx (.t 20) (.c (.int .i64 0))), none⟩, ⟨some 22, .q (.mv (.t 2)), none⟩, ⟨some 23, .q (.fa 2 (.t 9)), none⟩, ⟨some 24, .q (.ld (.t 23)), none⟩, ⟨some 25, .q (.mn (.t 22) (.t 24)), none⟩, ⟨some 10, .q (.mv (.t 21)), none⟩, ⟨some 11, .q (.mv (.t 25)), none⟩]
def c47_7 : List SOper := [⟨some 26, .q (.mv (.t 10)), none⟩, ⟨some 27, .q (.mv (.t 11)), none⟩, ⟨some 28, .q (.bin .lss (.t 26) (.t 27)), none⟩]
def c47_8 : List SOper := [⟨some 29, .q (.ldn 3 (.t 9)), none⟩, ⟨some 30, .q (.mv (.t 10)), none⟩, ⟨some 31, .e (.call 59 [(.t 29), (.t 30)]), none⟩, ⟨some 12, .a (.new [(.int .i64 0), (.int .i64 0), (.int .i64 0)]), none⟩, ⟨none, .e (.st 3 (.t 12) (.t 31)), none⟩]
def c47_9 : List SOper := [⟨some 32, .q (.mv (.t 11)), none⟩, ⟨some 33, .q (.mv (.t 10)), none⟩, ⟨some 34, .q (.bin .sub (.t 32) (.t 33)), none⟩, ⟨some 35, .q (.fa 2 (.t 12)), none⟩, ⟨none, .e (.st 1 (.t 35) (.t 34)), none⟩]
def c47_10 : List SOper := [⟨some 36, .q (.mv (.t 7)), none⟩, ⟨some 37, .q (.ldn 3 (.t 12)), none⟩, ⟨some 38, .a (.bsl 1 3 [(.int .i64 0), (.int .i64 0), (.int .i64 0)] [(0, 3, (.t 37))]), none⟩, ⟨some 39, .e (.app 24 3 (.t 36) (.t 38)), none⟩, ⟨some 7, .q (.mv (.t 39)), none⟩]
def c47_11 : SCode := .seq (.region c47_9 [1, 2, 7, 9, 12, 14, 15, 16]) (.region c47_10 [1, 2, 7, 9, 14, 15, 16])
def c47_12 : SCode := .seq (.region c47_8 [1, 2, 7, 9, 10, 11, 12, 14, 15, 16]) c47_11
def c47_13 : SCode := .cond (.t 28) c47_12 .skip
def c47_14 : SCode := .seq (.region c47_7 [1, 2, 7, 9, 10, 11, 14, 15, 16, 28]) c47_13
def c47_15 : SCode := .seq (.region c47_6 [1, 2, 7, 9, 10, 11, 14, 15, 16]) c47_14
def c47_16 : List SOper := [⟨some 40, .q (.mv (.t 1)), none⟩, ⟨some 41, .q (.fa 2 (.t 9)), none⟩, ⟨some 42, .q (.ld (.t 41)), none⟩, ⟨some 43, .q (.bin .sub (.t 40) (.t 42)), none⟩, ⟨some 44, .q (.mv (.t 2)), none⟩, ⟨some 45, .q (.fa 2 (.t 9)), none⟩, ⟨some 46, .q (.ld (.t 45)), none⟩, ⟨some 47, .q (.bin .sub (.t 44) (.t 46)), none⟩, ⟨some 1, .q (.mv (.t 43)), none⟩, ⟨some 2, .q (.mv (.t 47)), none⟩]
def c47_17 : SCode := .seq c47_15 (.region c47_16 [1, 2, 7, 14, 15, 16])
def c47_18 : SCode := .seq (.region c47_5 [1, 2, 7, 9, 14, 15, 16]) c47_17
def c47_19 : SCode := .block 1 c47_18
def c47_20 : List SOper := [⟨some 48, .q (.bin .add (.t 16) (.c (.int .i64 1))), none⟩, ⟨some 16, .q (.mv (.t 48)), none⟩]
def c47_21 : SCode := .seq c47_19 (.region c47_20 [1, 2, 7, 14, 15, 16])
def c47_22 : SCode := .seq c47_4 c47_21
def c47_23 : SCode := .seq (.region c47_3 [1, 2, 7, 14, 15, 16, 17]) c47_22
def c47_24 : SCode := .loop c47_23
def c47_25 : SCode := .block 0 c47_24
def c47_26 : SCode := .seq (.region c47_2 [1, 2, 7, 14, 15, 16]) c47_25
def c47_27 : List SOper := [⟨some 49, .q (.mv (.t 7)), none⟩, ⟨some 6, .q (.mv (.t 49)), none⟩]
def c47_28 : SCode := .seq (.region c47_27 [6]) .ret
def c47_29 : SCode := .seq c47_26 c47_28
def c47_30 : SCode := .seq (.region c47_1 [0, 1, 2, 7]) c47_29
def c47_31 : SCode := .seq (.region c47_0 [0, 1, 2]) c47_30
def c47 : SCode := c47_31
theorem w47 : type_of% (And.intro (uR Try.prog c47_0.eq_1) (And.intro (uR Try.prog c47_1.eq_1) (And.intro (uR Try.prog c47_2.eq_1) (And.intro (uR Try.prog c47_3.eq_1) (And.intro (uC Try.prog c47_4.eq_1) (And.intro (uR Try.prog c47_5.eq_1) (And.intro (uR Try.prog c47_6.eq_1) (And.intro (uR Try.prog c47_7.eq_1) (And.intro (uR Try.prog c47_8.eq_1) (And.intro (uR Try.prog c47_9.eq_1) (And.intro (uR Try.prog c47_10.eq_1) (And.intro (uC Try.prog c47_11.eq_1) (And.intro (uC Try.prog c47_12.eq_1) (And.intro (uC Try.prog c47_13.eq_1) (And.intro (uC Try.prog c47_14.eq_1) (And.intro (uC Try.prog c47_15.eq_1) (And.intro (uR Try.prog c47_16.eq_1) (And.intro (uC Try.prog c47_17.eq_1) (And.intro (uC Try.prog c47_18.eq_1) (And.intro (uC Try.prog c47_19.eq_1) (And.intro (uR Try.prog c47_20.eq_1) (And.intro (uC Try.prog c47_21.eq_1) (And.intro (uC Try.prog c47_22.eq_1) (And.intro (uC Try.prog c47_23.eq_1) (And.intro (uC Try.prog c47_24.eq_1) (And.intro (uC Try.prog c47_25.eq_1) (And.intro (uC Try.prog c47_26.eq_1) (And.intro (uR Try.prog c47_27.eq_1) (And.intro (uC Try.prog c47_28.eq_1) (And.intro (uC Try.prog c47_29.eq_1) (And.intro (uC Try.prog c47_30.eq_1) (And.intro (uC Try.prog c47_31.eq_1) (uC Try.prog c47.eq_1))))))))))))))))))))))))))))))))) := (And.intro (uR Try.prog c47_0.eq_1) (And.intro (uR Try.prog c47_1.eq_1) (And.intro (uR Try.prog c47_2.eq_1) (And.intro (uR Try.prog c47_3.eq_1) (And.intro (uC Try.prog c47_4.eq_1) (And.intro (uR Try.prog c47_5.eq_1) (And.intro (uR Try.prog c47_6.eq_1) (And.intro (uR Try.prog c47_7.eq_1) (And.intro (uR Try.prog c47_8.eq_1) (And.intro (uR Try.prog c47_9.eq_1) (And.intro (uR Try.prog c47_10.eq_1) (And.intro (uC Try.prog c47_11.eq_1) (And.intro (uC Try.prog c47_12.eq_1) (And.intro (uC Try.prog c47_13.eq_1) (And.intro (uC Try.prog c47_14.eq_1) (And.intro (uC Try.prog c47_15.eq_1) (And.intro (uR Try.prog c47_16.eq_1) (And.intro (uC Try.prog c47_17.eq_1) (And.intro (uC Try.prog c47_18.eq_1) (And.intro (uC Try.prog c47_19.eq_1) (And.intro (uR Try.prog c47_20.eq_1) (And.intro (uC Try.prog c47_21.eq_1) (And.intro (uC Try.prog c47_22.eq_1) (And.intro (uC Try.prog c47_23.eq_1) (And.intro (uC Try.prog c47_24.eq_1) (And.intro (uC Try.prog c47_25.eq_1) (And.intro (uC Try.prog c47_26.eq_1) (And.intro (uR Try.prog c47_27.eq_1) (And.intro (uC Try.prog c47_28.eq_1) (And.intro (uC Try.prog c47_29.eq_1) (And.intro (uC Try.prog c47_30.eq_1) (And.intro (uC Try.prog c47_31.eq_1) (uC Try.prog c47.eq_1)))))))))))))))))))))))))))))))))
def v47 : List RV := [.t 6]
theorem s47 : slimF Try.prog Try.f47 = some (c47.bare, v47) := by kernel_rfl

def fromC (k : Clip) (n : Int) : Clip := ⟨k.src, if k.src = 0 then k.inn else k.inn + n, k.len - n⟩
theorem from_ok (h : Heap) (k : Clip) (n : Int) (hk : clipOk k) (hn : -1000000000000 ≤ n ∧ n ≤ 1000000000000) :
    ACall Try.prog 59 [.agg (encClip k).toArray, .int .i64 n] h fun r h' => Ext h h' ∧ r = .agg (encClip (fromC k n)).toArray := by
  obtain ⟨a, b, c⟩ := k
  simp only [clipOk] at hk
  refine ACall.of Try.func59 s59 (of_decide_eq_true rfl) ?_
  simp (maxSteps := 4000000) (disch := omega) only [ah, am, Nat.reduceEqDiff, reduceCtorEq, Nat.reduceAdd, Nat.reduceLeDiff, Nat.reduceMul, Nat.reduceLT, if_true, if_false, true_and, and_true, and_self, Nat.reduceBEq, QOp.loads, boxO, bslO, buildO, cutL, fillV, putL, w59, v59, encClip, i64w]
  refine stepC.of (isGap_ok' _ _ _ _) ?_
  rintro _ _ ⟨rfl, rfl⟩
  by_cases hg : a = 0
  · have hg' : decide (a = 0) = true := decide_eq_true hg
    simp (maxSteps := 4000000) (disch := omega) only [ah, am, Nat.reduceEqDiff, reduceCtorEq, Nat.reduceAdd, Nat.reduceLeDiff, Nat.reduceMul, Nat.reduceLT, if_true, if_false, true_and, and_true, and_self, Nat.reduceBEq, QOp.loads, boxO, bslO, buildO, cutL, fillV, putL, w59, v59, encClip, i64w, hg']
    exact ⟨Ext.more _ _, by simp [fromC, hg]⟩
  · have hg' : decide (a = 0) = false := decide_eq_false hg
    simp (maxSteps := 4000000) (disch := omega) only [ah, am, Nat.reduceEqDiff, reduceCtorEq, Nat.reduceAdd, Nat.reduceLeDiff, Nat.reduceMul, Nat.reduceLT, if_true, if_false, true_and, and_true, and_self, Nat.reduceBEq, QOp.loads, boxO, bslO, buildO, cutL, fillV, putL, w59, v59, encClip, i64w, hg']
    exact ⟨Ext.more _ _, by simp [fromC, hg]⟩
/-- What of a clip lies between two frames, counted from its beginning. -/
def pieceI (fr to : Int) (k : Clip) : List Clip := if max fr 0 < min to k.len then [⟨k.src, if k.src = 0 then k.inn else k.inn + max fr 0, min to k.len - max fr 0⟩] else []
def partI : Int → Int → List Clip → List Clip
  | _, _, [] => []
  | fr, to, k :: l => pieceI fr to k ++ partI (fr - k.len) (to - k.len) l
theorem partI_snoc (l : List Clip) (k : Clip) : ∀ fr to, partI fr to (l ++ [k]) = partI fr to l ++ pieceI (fr - sumLen l) (to - sumLen l) k := by
  induction l with
  | nil => intro fr to; simp [partI, sumLen]
  | cons c l ih =>
    intro fr to
    have e1 : fr - c.len - sumLen l = fr - sumLen (c :: l) := by simp [sumLen]; omega
    have e2 : to - c.len - sumLen l = to - sumLen (c :: l) := by simp [sumLen]; omega
    simp only [List.cons_append, partI, ih, List.append_assoc, e1, e2]
theorem partI_take (fr to : Int) (l : List Clip) (i : Nat) (hi : i < l.length) : partI fr to (l.take (i + 1)) = partI fr to (l.take i) ++ pieceI (fr - sumLen (l.take i)) (to - sumLen (l.take i)) l[i] := by
  rw [List.take_succ_eq_append_getElem hi, partI_snoc]
theorem pieceI_length (fr to : Int) (k : Clip) : (pieceI fr to k).length ≤ 1 := by unfold pieceI; split <;> simp
theorem partI_length (l : List Clip) : ∀ fr to, (partI fr to l).length ≤ l.length := by
  induction l with
  | nil => intro fr to; simp [partI]
  | cons k l ih => intro fr to; have h1 := pieceI_length fr to k; have h2 := ih (fr - k.len) (to - k.len); simp only [partI, List.length_append, List.length_cons]; omega
theorem part_ok (h : Heap) (v : Value) (l : List Clip) (fr to : Int) (s : SlT h encClip 3 v l) (hl : l.length ≤ 300) (ho : ∀ k ∈ l, clipOk k) (hf : -100000000000 ≤ fr ∧ fr ≤ 100000000000) (ht : -100000000000 ≤ to ∧ to ≤ 100000000000)
    (hs : sumLen l ≤ 10000000) : ACall Try.prog 47 [v, .int .i64 fr, .int .i64 to] h fun r h' => Fresh h h' encClip 3 r (partI fr to l) := by
  refine ACall.of Try.func47 s47 (of_decide_eq_true rfl) ?_
  have R := s.rulesN
  simp (maxSteps := 4000000) (disch := omega) only [ah, am, Nat.reduceEqDiff, reduceCtorEq, Nat.reduceAdd, Nat.reduceLeDiff, Nat.reduceMul, Nat.reduceLT, if_true, if_false, true_and, and_true, and_self, Nat.reduceBEq, QOp.loads, boxO, bslO, buildO, cutL, fillV, putL, w47, v47, R]
  refine SW_loop_up (fun i E H => ∃ ov, E = [(1, .int .i64 (fr - sumLen (l.take i))), (2, .int .i64 (to - sumLen (l.take i))), (7, ov), (14, v), (15, .int .i64 l.length), (16, .int .i64 i)] ∧ Fresh h H encClip 3 ov (partI fr to (l.take i))) l.length 0 (by omega)
    ⟨_, by simp [sumLen], Fresh.new0 h encClip_len (by omega)⟩ ?_
  rintro i E H hi ⟨ov, rfl, F⟩
  have R := (s.ext F.1).rulesN
  have W : IntKind.i64.wrap ((i : Int) + 1) = ((i + 1 : Nat) : Int) := i64e (by omega) (by omega)
  simp (maxSteps := 4000000) (disch := omega) only [ah, am, Nat.reduceEqDiff, reduceCtorEq, Nat.reduceAdd, Nat.reduceLeDiff, Nat.reduceMul, Nat.reduceLT, if_true, if_false, true_and, and_true, and_self, Nat.reduceBEq, QOp.loads, boxO, bslO, buildO, cutL, fillV, putL, w47, v47, R]
  refine stepI.split (fun hp => ?_) (fun hp => ?_)
  · have hi' : i < l.length := by omega
    have B := sumLen_bound (l := l.take i) (fun k hk => ho k (List.mem_of_mem_take hk))
    have hlen : (l.take i).length ≤ 300 := by simp; omega
    have J := partI_take fr to l i hi'
    have Sm := sumLen_take l i hi'
    have K := ho _ (List.getElem_mem hi')
    have PL := partI_length (l.take i) fr to
    have K' := K
    simp only [clipOk] at K
    generalize partI fr to (l.take i) = out at *
    generalize sumLen (l.take i) = pos at *
    have W1 : IntKind.i64.wrap (fr - pos - l[i].len) = fr - sumLen (l.take (i + 1)) := i64e (by omega) (by omega)
    have W2 : IntKind.i64.wrap (to - pos - l[i].len) = to - sumLen (l.take (i + 1)) := i64e (by omega) (by omega)
    have hx : (if fr - pos < 0 then 0 else fr - pos) = max (fr - pos) 0 := by omega
    have hy : (if l[i].len < to - pos then l[i].len else to - pos) = min (to - pos) l[i].len := by omega
    simp (maxSteps := 4000000) (disch := omega) only [ah, am, Nat.reduceEqDiff, reduceCtorEq, Nat.reduceAdd, Nat.reduceLeDiff, Nat.reduceMul, Nat.reduceLT, if_true, if_false, true_and, and_true, and_self, Nat.reduceBEq, QOp.loads, boxO, bslO, buildO, cutL, fillV, putL, w47, v47, R, W, encClip, i64w, hx, hy]
    refine stepI.split (fun hc => ?_) (fun hc => ?_)
    · have fo := from_ok (H.more [encClip l[i]]) l[i] (max (fr - pos) 0) K' (by omega)
      simp only [encClip] at fo
      simp (maxSteps := 4000000) (disch := omega) only [ah, am, Nat.reduceEqDiff, reduceCtorEq, Nat.reduceAdd, Nat.reduceLeDiff, Nat.reduceMul, Nat.reduceLT, if_true, if_false, true_and, and_true, and_self, Nat.reduceBEq, QOp.loads, boxO, bslO, buildO, cutL, fillV, putL, w47, v47, R, W, encClip, i64w, hx, hy]
      refine stepC.of fo ?_
      rintro _ H2 ⟨e2, rfl⟩
      have e2' : Ext H H2 := (Ext.more H _).trans e2
      obtain ⟨v2, H3, ea, F3, X, X0⟩ := F.app1e e2' [encClip ⟨l[i].src, if l[i].src = 0 then l[i].inn else l[i].inn + max (fr - pos) 0, min (to - pos) l[i].len - max (fr - pos) 0⟩]
        ⟨l[i].src, if l[i].src = 0 then l[i].inn else l[i].inn + max (fr - pos) 0, min (to - pos) l[i].len - max (fr - pos) 0⟩ (bytes := 24) (by omega)
      have X0 := (X0 _ e2 0 _ rfl).1
      simp only [more_more, size_more, List.cons_append, List.nil_append, List.length_cons, List.length_nil, Nat.zero_add, encClip, Nat.reduceAdd] at ea
      simp only [Nat.add_zero, encClip] at X0
      have hpc : pieceI (fr - pos) (to - pos) l[i] = [⟨l[i].src, if l[i].src = 0 then l[i].inn else l[i].inn + max (fr - pos) 0, min (to - pos) l[i].len - max (fr - pos) 0⟩] := if_pos hc
      simp (maxSteps := 4000000) (disch := omega) only [ah, am, Nat.reduceEqDiff, reduceCtorEq, Nat.reduceAdd, Nat.reduceLeDiff, Nat.reduceMul, Nat.reduceLT, if_true, if_false, true_and, and_true, and_self, Nat.reduceBEq, QOp.loads, boxO, bslO, buildO, cutL, fillV, putL, w47, v47, R, W, W1, W2, encClip, fromC, i64w, hx, hy, ea, X0]
      refine ⟨hi', _, rfl, ?_⟩
      rw [J, hpc]; exact F3
    · have hpc : pieceI (fr - pos) (to - pos) l[i] = [] := if_neg hc
      simp (maxSteps := 4000000) (disch := omega) only [ah, am, Nat.reduceEqDiff, reduceCtorEq, Nat.reduceAdd, Nat.reduceLeDiff, Nat.reduceMul, Nat.reduceLT, if_true, if_false, true_and, and_true, and_self, Nat.reduceBEq, QOp.loads, boxO, bslO, buildO, cutL, fillV, putL, w47, v47, R, W, W1, W2, encClip, i64w]
      refine ⟨hi', _, rfl, ?_⟩
      rw [J, hpc, List.append_nil]; exact F.ext (Ext.more _ _)
  · simp (maxSteps := 4000000) (disch := omega) only [ah, am, Nat.reduceEqDiff, reduceCtorEq, Nat.reduceAdd, Nat.reduceLeDiff, Nat.reduceMul, Nat.reduceLT, if_true, if_false, true_and, and_true, and_self, Nat.reduceBEq, QOp.loads, boxO, bslO, buildO, cutL, fillV, putL, w47, v47, R, W]
    obtain rfl : i = l.length := by omega
    rw [List.take_length] at F
    exact F
end Go.Proofs.Ytbnppofkpgfhnaa
