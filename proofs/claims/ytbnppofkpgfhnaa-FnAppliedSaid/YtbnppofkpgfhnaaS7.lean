import Derived.Test.YtbnppofkpgfhnaaS6
import Derived.Test.YtbnppofkpgfhnaaAhV
namespace Go.Proofs.Ytbnppofkpgfhnaa
open Go Go.Ah
set_option linter.unusedSimpArgs false
set_option linter.unusedVariables false
set_option maxRecDepth 10000
set_option maxHeartbeats 4000000
/-! 81 loop.example/g00066/spec.l1Max: parameters 2, live [0, 1], slots [0:a, 1:b, 2:a, 3:b] -/
def c81_0 : List SOper := [⟨some 4, .q (.mv (.c (.int .i64 0))), none⟩]
def c81_1 : List SOper := [⟨some 5, .q (.mv (.t 0)), none⟩, ⟨some 6, .q (.mv (.t 1)), none⟩, ⟨some 7, .q (.bin .gtr (.t 5) (.t 6)), none⟩]
def c81_2 : List SOper := [⟨some 8, .q (.mv (.t 0)), none⟩, ⟨some 4, .q (.mv (.t 8)), none⟩]
def c81_3 : SCode := .seq (.region c81_2 [4]) .ret
def c81_4 : SCode := .cond (.t 7) c81_3 .skip
def c81_5 : SCode := .seq (.region c81_1 [0, 1, 7]) c81_4
def c81_6 : List SOper := [⟨some 9, .q (.mv (.t 1)), none⟩, ⟨some 4, .q (.mv (.t 9)), none⟩]
def c81_7 : SCode := .seq (.region c81_6 [4]) .ret
def c81_8 : SCode := .seq c81_5 c81_7
def c81_9 : SCode := .seq (.region c81_0 [0, 1]) c81_8
def c81 : SCode := c81_9
theorem w81 : type_of% (And.intro (uR Try.prog c81_0.eq_1) (And.intro (uR Try.prog c81_1.eq_1) (And.intro (uR Try.prog c81_2.eq_1) (And.intro (uC Try.prog c81_3.eq_1) (And.intro (uC Try.prog c81_4.eq_1) (And.intro (uC Try.prog c81_5.eq_1) (And.intro (uR Try.prog c81_6.eq_1) (And.intro (uC Try.prog c81_7.eq_1) (And.intro (uC Try.prog c81_8.eq_1) (And.intro (uC Try.prog c81_9.eq_1) (uC Try.prog c81.eq_1))))))))))) := (And.intro (uR Try.prog c81_0.eq_1) (And.intro (uR Try.prog c81_1.eq_1) (And.intro (uR Try.prog c81_2.eq_1) (And.intro (uC Try.prog c81_3.eq_1) (And.intro (uC Try.prog c81_4.eq_1) (And.intro (uC Try.prog c81_5.eq_1) (And.intro (uR Try.prog c81_6.eq_1) (And.intro (uC Try.prog c81_7.eq_1) (And.intro (uC Try.prog c81_8.eq_1) (And.intro (uC Try.prog c81_9.eq_1) (uC Try.prog c81.eq_1)))))))))))
def v81 : List RV := [.t 4]
theorem s81 : slimF Try.prog Try.f81 = some (c81.bare, v81) := by kernel_rfl
/-! 50 loop.example/g00066/spec.l1Min: parameters 2, live [0, 1], slots [0:a, 1:b, 2:a, 3:b] -/
def c50_0 : List SOper := [⟨some 4, .q (.mv (.c (.int .i64 0))), none⟩]
def c50_1 : List SOper := [⟨some 5, .q (.mv (.t 0)), none⟩, ⟨some 6, .q (.mv (.t 1)), none⟩, ⟨some 7, .q (.bin .lss (.t 5) (.t 6)), none⟩]
def c50_2 : List SOper := [⟨some 8, .q (.mv (.t 0)), none⟩, ⟨some 4, .q (.mv (.t 8)), none⟩]
def c50_3 : SCode := .seq (.region c50_2 [4]) .ret
def c50_4 : SCode := .cond (.t 7) c50_3 .skip
def c50_5 : SCode := .seq (.region c50_1 [0, 1, 7]) c50_4
def c50_6 : List SOper := [⟨some 9, .q (.mv (.t 1)), none⟩, ⟨some 4, .q (.mv (.t 9)), none⟩]
def c50_7 : SCode := .seq (.region c50_6 [4]) .ret
def c50_8 : SCode := .seq c50_5 c50_7
def c50_9 : SCode := .seq (.region c50_0 [0, 1]) c50_8
def c50 : SCode := c50_9
theorem w50 : type_of% (And.intro (uR Try.prog c50_0.eq_1) (And.intro (uR Try.prog c50_1.eq_1) (And.intro (uR Try.prog c50_2.eq_1) (And.intro (uC Try.prog c50_3.eq_1) (And.intro (uC Try.prog c50_4.eq_1) (And.intro (uC Try.prog c50_5.eq_1) (And.intro (uR Try.prog c50_6.eq_1) (And.intro (uC Try.prog c50_7.eq_1) (And.intro (uC Try.prog c50_8.eq_1) (And.intro (uC Try.prog c50_9.eq_1) (uC Try.prog c50.eq_1))))))))))) := (And.intro (uR Try.prog c50_0.eq_1) (And.intro (uR Try.prog c50_1.eq_1) (And.intro (uR Try.prog c50_2.eq_1) (And.intro (uC Try.prog c50_3.eq_1) (And.intro (uC Try.prog c50_4.eq_1) (And.intro (uC Try.prog c50_5.eq_1) (And.intro (uR Try.prog c50_6.eq_1) (And.intro (uC Try.prog c50_7.eq_1) (And.intro (uC Try.prog c50_8.eq_1) (And.intro (uC Try.prog c50_9.eq_1) (uC Try.prog c50.eq_1)))))))))))
def v50 : List RV := [.t 4]
theorem s50 : slimF Try.prog Try.f50 = some (c50.bare, v50) := by kernel_rfl
/-! 53 loop.example/g00066/spec.l4Part: parameters 3, live [0, 1, 2], slots [0:track, 1:from, 2:to, 3:track, 4:from, 5:to, 7:out, 8:at, 9:i, 10:k, 11:a, 12:b, 13:x] -/
def c53_0 : List SOper := [⟨some 6, .q (.mv (.c (.slice none 0 0))), none⟩]
def c53_1 : List SOper := [⟨some 14, .a (.bsl 0 3 [] []), none⟩, ⟨some 7, .q (.mv (.t 14)), none⟩]
def c53_2 : List SOper := [⟨some 8, .q (.mv (.c (.int .i64 0))), none⟩]
def c53_3 : List SOper := [⟨some 9, .q (.mv (.c (.int .i64 0))), none⟩]
def c53_4 : List SOper := [⟨some 15, .q (.mv (.t 9)), none⟩, ⟨some 16, .q (.mv (.t 0)), none⟩, ⟨some 17, .q (.len (.t 16)), none⟩, ⟨some 18, .q (.bin .lss (.t 15) (.t 17)), none⟩]
def c53_5 : SCode := .cond (.t 18) .skip (.exit 0)
def c53_6 : SCode := .seq (.region c53_4 [0, 1, 2, 7, 8, 9, 18]) c53_5
def c53_7 : List SOper := [⟨some 21, .q (.mv (.t 0)), none⟩, ⟨some 22, .q (.mv (.t 9)), none⟩, ⟨some 23, .q (.ia 3 (.t 21) (.t 22)), none⟩, ⟨some 24, .q (.ldn 3 (.t 23)), none⟩, ⟨some 10, .a (.new [(.int .i64 0), (.int .i64 0), (.int .i64 0)]), none⟩, ⟨none, .e (.st 3 (.t 10) (.t 24)), none⟩]
def c53_8 : List SOper := [⟨some 25, .q (.mv (.t 1)), none⟩, ⟨some 26, .q (.mv (.t 8)), none⟩, ⟨some 27, .e (.call 81 [(.t 25), (.t 26)]), none⟩, ⟨some 11, .q (.mv (.t 27)), none⟩]
def c53_9 : List SOper := [⟨some 28, .q (.mv (.t 2)), none⟩, ⟨some 29, .q (.mv (.t 8)), none⟩, ⟨some 30, .q (.fa 2 (.t 10)), none⟩, ⟨some 31, .q (.ld (.t 30)), none⟩, ⟨some 32, .q (.bin .add (.t 29) (.t 31)), none⟩, ⟨some 33, .e (.call 50 [(.t 28), (.t 32)]), none⟩, ⟨some 12, .q (.mv (.t 33)), none⟩]
def c53_10 : List SOper := [⟨some 34, .q (.mv (.t 11)), none⟩, ⟨some 35, .q (.mv (.t 12)), none⟩, ⟨some 36, .q (.bin .lss (.t 34) (.t 35)), none⟩]
def c53_11 : List SOper := [⟨some 37, .q (.fa 0 (.t 10)), none⟩, ⟨some 38, .q (.ld (.t 37)), none⟩, ⟨some 39, .q (.fa 1 (.t 10)), none⟩, ⟨some 40, .q (.ld (.t 39)), none⟩, ⟨some 41, .q (.mv (.t 11)), none⟩, ⟨some 42, .q (.bin .add (.t 40) (.t 41)), none⟩, ⟨some 43, .q (.mv (.t 8)), none⟩, ⟨some 44, .q (.bin .sub (.t 42) (.t 43)), none⟩, ⟨some 45, .q (.mv (.t 12)), none⟩, ⟨some 46, .q (.mv (.t 11)), none⟩, ⟨some 47, .q (.bin .sub (.t 45) (.t 46)), none⟩, ⟨some 48, .q (.build [(.int .i64 0), (.int .i64 0), (.int .i64 0)] [(0, 1, (.t 38)), (1, 1, (.t 44)), (2, 1, (.t 47))]), none⟩, ⟨some 13, .a (.new [(.int .i64 0), (.int .i64 0), (.int .i64 0)]), none⟩, ⟨none, .e (.st 3 (.t 13) (.t 48)), none⟩]
def c53_12 : List SOper := [⟨some 49, .q (.fa 0 (.t 10)), none⟩, ⟨some 50, .q (.ld (.t 49)), none⟩, ⟨some 51, .q (.bin .eql (.t 50) (.c (.int .i64 0))), none⟩]
def c53_13 : List SOper := [⟨some 52, .q (.fa 1 (.t 13)), none⟩, ⟨none, .e (.st 1 (.t 52) (.c (.int .i64 0))), none⟩]
def c53_14 : SCode := .cond (.t 51) (.region c53_13 [0, 1, 2, 7, 8, 9, 10, 13]) .skip
def c53_15 : SCode := .seq (.region c53_12 [0, 1, 2, 7, 8, 9, 10, 13, 51]) c53_14
def c53_16 : List SOper := [⟨some 53, .q (.mv (.t 7)), none⟩, ⟨some 54, .q (.ldn 3 (.t 13)), none⟩, ⟨some 55, .a (.bsl 1 3 [(.int .i64 0), (.int .i64 0), (.int .i64 0)] [(0, 3, (.t 54))]), none⟩, ⟨some 56, .e (.app 24 3 (.t 53) (.t 55)), none⟩, ⟨some 7, .q (.mv (.t 56)), none⟩]
def c53_17 : SCode := .seq c53_15 (.region c53_16 [0, 1, 2, 7, 8, 9, 10])
def c53_18 : SCode := .seq (.region c53_11 [0, 1, 2, 7, 8, 9, 10, 13]) c53_17
def c53_19 : SCode := .cond (.t 36) c53_18 .skip
def c53_20 : SCode := .seq (.region c53_10 [0, 1, 2, 7, 8, 9, 10, 11, 12, 36]) c53_19
def c53_21 : List SOper := [⟨some 57, .q (.mv (.t 8)), none⟩, ⟨some 58, .q (.fa 2 (.t 10)), none⟩, ⟨some 59, .q (.ld (.t 58)), none⟩, ⟨some 60, .q (.bin .add (.t 57) (.t 59)), none⟩, ⟨some 8, .q (.mv (.t 60)), none⟩]
def c53_22 : SCode := .seq c53_20 (.region c53_21 [0, 1, 2, 7, 8, 9])
def c53_23 : SCode := .seq (.region c53_9 [0, 1, 2, 7, 8, 9, 10, 11, 12]) c53_22
def c53_24 : SCode := .seq (.region c53_8 [0, 1, 2, 7, 8, 9, 10, 11]) c53_23
def c53_25 : SCode := .seq (.region c53_7 [0, 1, 2, 7, 8, 9, 10]) c53_24
def c53_26 : SCode := .block 1 c53_25
def c53_27 : List SOper := [⟨some 19, .q (.mv (.t 9)), none⟩, ⟨some 20, .q (.bin .add (.t 19) (.c (.int .i64 1))), none⟩, ⟨some 9, .q (.mv (.t 20)), none⟩]
def c53_28 : SCode := .seq c53_26 (.region c53_27 [0, 1, 2, 7, 8, 9])
def c53_29 : SCode := .seq c53_6 c53_28
def c53_30 : SCode := .loop c53_29
def c53_31 : SCode := .block 0 c53_30
def c53_32 : SCode := .seq (.region c53_3 [0, 1, 2, 7, 8, 9]) c53_31
def c53_33 : List SOper := [⟨some 61, .q (.mv (.t 7)), none⟩, ⟨some 6, .q (.mv (.t 61)), none⟩]
def c53_34 : SCode := .seq (.region c53_33 [6]) .ret
def c53_35 : SCode := .seq c53_32 c53_34
def c53_36 : SCode := .seq (.region c53_2 [0, 1, 2, 7, 8]) c53_35
def c53_37 : SCode := .seq (.region c53_1 [0, 1, 2, 7]) c53_36
def c53_38 : SCode := .seq (.region c53_0 [0, 1, 2]) c53_37
def c53 : SCode := c53_38
theorem w53 : type_of% (And.intro (uR Try.prog c53_0.eq_1) (And.intro (uR Try.prog c53_1.eq_1) (And.intro (uR Try.prog c53_2.eq_1) (And.intro (uR Try.prog c53_3.eq_1) (And.intro (uR Try.prog c53_4.eq_1) (And.intro (uC Try.prog c53_5.eq_1) (And.intro (uC Try.prog c53_6.eq_1) (And.intro (uR Try.prog c53_7.eq_1) (And.intro (uR Try.prog c53_8.eq_1) (And.intro (uR Try.prog c53_9.eq_1) (And.intro (uR Try.prog c53_10.eq_1) (And.intro (uR Try.prog c53_11.eq_1) (And.intro (uR Try.prog c53_12.eq_1) (And.intro (uR Try.prog c53_13.eq_1) (And.intro (uC Try.prog c53_14.eq_1) (And.intro (uC Try.prog c53_15.eq_1) (And.intro (uR Try.prog c53_16.eq_1) (And.intro (uC Try.prog c53_17.eq_1) (And.intro (uC Try.prog c53_18.eq_1) (And.intro (uC Try.prog c53_19.eq_1) (And.intro (uC Try.prog c53_20.eq_1) (And.intro (uR Try.prog c53_21.eq_1) (And.intro (uC Try.prog c53_22.eq_1) (And.intro (uC Try.prog c53_23.eq_1) (And.intro (uC Try.prog c53_24.eq_1) (And.intro (uC Try.prog c53_25.eq_1) (And.intro (uC Try.prog c53_26.eq_1) (And.intro (uR Try.prog c53_27.eq_1) (And.intro (uC Try.prog c53_28.eq_1) (And.intro (uC Try.prog c53_29.eq_1) (And.intro (uC Try.prog c53_30.eq_1) (And.intro (uC Try.prog c53_31.eq_1) (And.intro (uC Try.prog c53_32.eq_1) (And.intro (uR Try.prog c53_33.eq_1) (And.intro (uC Try.prog c53_34.eq_1) (And.intro (uC Try.prog c53_35.eq_1) (And.intro (uC Try.prog c53_36.eq_1) (And.intro (uC Try.prog c53_37.eq_1) (And.intro (uC Try.prog c53_38.eq_1) (uC Try.prog c53.eq_1)))))))))))))))))))))))))))))))))))))))) := (And.intro (uR Try.prog c53_0.eq_1) (And.intro (uR Try.prog c53_1.eq_1) (And.intro (uR Try.prog c53_2.eq_1) (And.intro (uR Try.prog c53_3.eq_1) (And.intro (uR Try.prog c53_4.eq_1) (And.intro (uC Try.prog c53_5.eq_1) (And.intro (uC Try.prog c53_6.eq_1) (And.intro (uR Try.prog c53_7.eq_1) (And.intro (uR Try.prog c53_8.eq_1) (And.intro (uR Try.prog c53_9.eq_1) (And.intro (uR Try.prog c53_10.eq_1) (And.intro (uR Try.prog c53_11.eq_1) (And.intro (uR Try.prog c53_12.eq_1) (And.intro (uR Try.prog c53_13.eq_1) (And.intro (uC Try.prog c53_14.eq_1) (And.intro (uC Try.prog c53_15.eq_1) (And.intro (uR Try.prog c53_16.eq_1) (And.intro (uC Try.prog c53_17.eq_1) (And.intro (uC Try.prog c53_18.eq_1) (And.intro (uC Try.prog c53_19.eq_1) (And.intro (uC Try.prog c53_20.eq_1) (And.intro (uR Try.prog c53_21.eq_1) (And.intro (uC Try.prog c53_22.eq_1) (And.intro (uC Try.prog c53_23.eq_1) (And.intro (uC Try.prog c53_24.eq_1) (And.intro (uC Try.prog c53_25.eq_1) (And.intro (uC Try.prog c53_26.eq_1) (And.intro (uR Try.prog c53_27.eq_1) (And.intro (uC Try.prog c53_28.eq_1) (And.intro (uC Try.prog c53_29.eq_1) (And.intro (uC Try.prog c53_30.eq_1) (And.intro (uC Try.prog c53_31.eq_1) (And.intro (uC Try.prog c53_32.eq_1) (And.intro (uR Try.prog c53_33.eq_1) (And.intro (uC Try.prog c53_34.eq_1) (And.intro (uC Try.prog c53_35.eq_1) (And.intro (uC Try.prog c53_36.eq_1) (And.intro (uC Try.prog c53_37.eq_1) (And.intro (uC Try.prog c53_38.eq_1) (uC Try.prog c53.eq_1))))))))))))))))))))))))))))))))))))))))
def v53 : List RV := [.t 6]
theorem s53 : slimF Try.prog Try.f53 = some (c53.bare, v53) := by kernel_rfl

theorem l1Max_ok (h : Heap) (x y : Int) : ACall Try.prog 81 [.int .i64 x, .int .i64 y] h fun r h' => h' = h ∧ r = .int .i64 (max x y) := by
  refine ACall.of Try.func81 s81 (of_decide_eq_true rfl) ?_
  simp (maxSteps := 4000000) (disch := omega) only [ah, am, Nat.reduceEqDiff, reduceCtorEq, Nat.reduceAdd, Nat.reduceLeDiff, Nat.reduceMul, Nat.reduceLT, if_true, if_false, true_and, and_true, and_self, Nat.reduceBEq, QOp.loads, boxO, bslO, buildO, cutL, fillV, putL, w81, v81]
  (repeat' first
    | (refine stepG.cases (fun _ hp => ?_) (fun _ hp => ?_) <;> simp (maxSteps := 4000000) (disch := omega) only [hp, ah, am, Nat.reduceEqDiff, reduceCtorEq, Nat.reduceAdd, Nat.reduceLeDiff, Nat.reduceMul, Nat.reduceLT, if_true, if_false, true_and, and_true, and_self, Nat.reduceBEq, QOp.loads, boxO, bslO, buildO, cutL, fillV, putL, i64w, w81, v81])
    | (refine stepI.cases (fun _ hp => ?_) (fun _ hp => ?_) <;> simp (maxSteps := 4000000) (disch := omega) only [hp, ah, am, Nat.reduceEqDiff, reduceCtorEq, Nat.reduceAdd, Nat.reduceLeDiff, Nat.reduceMul, Nat.reduceLT, if_true, if_false, true_and, and_true, and_self, Nat.reduceBEq, QOp.loads, boxO, bslO, buildO, cutL, fillV, putL, i64w, w81, v81]))
  all_goals (congr 1; omega)
theorem l1Min_ok (h : Heap) (x y : Int) : ACall Try.prog 50 [.int .i64 x, .int .i64 y] h fun r h' => h' = h ∧ r = .int .i64 (min x y) := by
  refine ACall.of Try.func50 s50 (of_decide_eq_true rfl) ?_
  simp (maxSteps := 4000000) (disch := omega) only [ah, am, Nat.reduceEqDiff, reduceCtorEq, Nat.reduceAdd, Nat.reduceLeDiff, Nat.reduceMul, Nat.reduceLT, if_true, if_false, true_and, and_true, and_self, Nat.reduceBEq, QOp.loads, boxO, bslO, buildO, cutL, fillV, putL, w50, v50]
  (repeat' first
    | (refine stepG.cases (fun _ hp => ?_) (fun _ hp => ?_) <;> simp (maxSteps := 4000000) (disch := omega) only [hp, ah, am, Nat.reduceEqDiff, reduceCtorEq, Nat.reduceAdd, Nat.reduceLeDiff, Nat.reduceMul, Nat.reduceLT, if_true, if_false, true_and, and_true, and_self, Nat.reduceBEq, QOp.loads, boxO, bslO, buildO, cutL, fillV, putL, i64w, w50, v50])
    | (refine stepI.cases (fun _ hp => ?_) (fun _ hp => ?_) <;> simp (maxSteps := 4000000) (disch := omega) only [hp, ah, am, Nat.reduceEqDiff, reduceCtorEq, Nat.reduceAdd, Nat.reduceLeDiff, Nat.reduceMul, Nat.reduceLT, if_true, if_false, true_and, and_true, and_self, Nat.reduceBEq, QOp.loads, boxO, bslO, buildO, cutL, fillV, putL, i64w, w50, v50]))
  all_goals (congr 1; omega)
/-- What of a clip that begins at a frame lies between two frames. -/
def pieceS (fr to pos : Int) (k : Clip) : List Clip := if max fr pos < min to (pos + k.len) then [⟨k.src, if k.src = 0 then 0 else k.inn + max fr pos - pos, min to (pos + k.len) - max fr pos⟩] else []
def partS (fr to : Int) : Int → List Clip → List Clip
  | _, [] => []
  | pos, k :: l => pieceS fr to pos k ++ partS fr to (pos + k.len) l
theorem partS_snoc (fr to : Int) (l : List Clip) (k : Clip) : ∀ pos, partS fr to pos (l ++ [k]) = partS fr to pos l ++ pieceS fr to (pos + sumLen l) k := by
  induction l with
  | nil => intro pos; simp [partS, sumLen]
  | cons c l ih =>
    intro pos
    simp only [List.cons_append, partS, ih, List.append_assoc]
    congr 3
    simp [sumLen]; omega
theorem partS_take (fr to : Int) (l : List Clip) (i : Nat) (hi : i < l.length) : partS fr to 0 (l.take (i + 1)) = partS fr to 0 (l.take i) ++ pieceS fr to (sumLen (l.take i)) l[i] := by
  rw [List.take_succ_eq_append_getElem hi, partS_snoc, Int.zero_add]
theorem pieceS_length (fr to pos : Int) (k : Clip) : (pieceS fr to pos k).length ≤ 1 := by unfold pieceS; split <;> simp
theorem partS_length (fr to : Int) (l : List Clip) : ∀ pos, (partS fr to pos l).length ≤ l.length := by
  induction l with
  | nil => intro pos; simp [partS]
  | cons k l ih => intro pos; have h1 := pieceS_length fr to pos k; have h2 := ih (pos + k.len); simp only [partS, List.length_append, List.length_cons]; omega
theorem l4Part_ok (h : Heap) (v : Value) (l : List Clip) (fr to : Int) (s : SlT h encClip 3 v l) (hl : l.length ≤ 300) (ho : ∀ k ∈ l, clipOk k) (hf : -100000000000 ≤ fr ∧ fr ≤ 100000000000) (ht : -100000000000 ≤ to ∧ to ≤ 100000000000) :
    ACall Try.prog 53 [v, .int .i64 fr, .int .i64 to] h fun r h' => Fresh h h' encClip 3 r (partS fr to 0 l) := by
  refine ACall.of Try.func53 s53 (of_decide_eq_true rfl) ?_
  simp (maxSteps := 4000000) (disch := omega) only [ah, am, Nat.reduceEqDiff, reduceCtorEq, Nat.reduceAdd, Nat.reduceLeDiff, Nat.reduceMul, Nat.reduceLT, if_true, if_false, true_and, and_true, and_self, Nat.reduceBEq, QOp.loads, boxO, bslO, buildO, cutL, fillV, putL, w53, v53]
  refine SW_loop_up (fun i E H => ∃ ov, E = [(0, v), (1, .int .i64 fr), (2, .int .i64 to), (7, ov), (8, .int .i64 (sumLen (l.take i))), (9, .int .i64 i)] ∧ Fresh h H encClip 3 ov (partS fr to 0 (l.take i))) l.length 0 (by omega)
    ⟨_, rfl, Fresh.new0 h encClip_len (by omega)⟩ ?_
  rintro i E H hi ⟨ov, rfl, F⟩
  have R := (s.ext F.1).rulesN
  have W : IntKind.i64.wrap ((i : Int) + 1) = ((i + 1 : Nat) : Int) := i64e (by omega) (by omega)
  simp (maxSteps := 4000000) (disch := omega) only [ah, am, Nat.reduceEqDiff, reduceCtorEq, Nat.reduceAdd, Nat.reduceLeDiff, Nat.reduceMul, Nat.reduceLT, if_true, if_false, true_and, and_true, and_self, Nat.reduceBEq, QOp.loads, boxO, bslO, buildO, cutL, fillV, putL, w53, v53, R]
  refine stepI.split (fun hp => ?_) (fun hp => ?_)
  · have hi' : i < l.length := by omega
    have B := sumLen_bound (l := l.take i) (fun k hk => ho k (List.mem_of_mem_take hk))
    have hlen : (l.take i).length ≤ 300 := by simp; omega
    have J := partS_take fr to l i hi'
    have Sm := sumLen_take l i hi'
    have K := ho _ (List.getElem_mem hi')
    have PL := partS_length fr to (l.take i) 0
    simp only [clipOk] at K
    generalize partS fr to 0 (l.take i) = out at *
    generalize sumLen (l.take i) = pos at *
    simp (maxSteps := 4000000) (disch := omega) only [ah, am, Nat.reduceEqDiff, reduceCtorEq, Nat.reduceAdd, Nat.reduceLeDiff, Nat.reduceMul, Nat.reduceLT, if_true, if_false, true_and, and_true, and_self, Nat.reduceBEq, QOp.loads, boxO, bslO, buildO, cutL, fillV, putL, w53, v53, R, W, encClip, i64w]
    refine stepC.of (l1Max_ok _ _ _) ?_
    rintro _ _ ⟨rfl, rfl⟩
    simp (maxSteps := 4000000) (disch := omega) only [ah, am, Nat.reduceEqDiff, reduceCtorEq, Nat.reduceAdd, Nat.reduceLeDiff, Nat.reduceMul, Nat.reduceLT, if_true, if_false, true_and, and_true, and_self, Nat.reduceBEq, QOp.loads, boxO, bslO, buildO, cutL, fillV, putL, w53, v53, R, W, encClip, i64w]
    refine stepC.of (l1Min_ok _ _ _) ?_
    rintro _ _ ⟨rfl, rfl⟩
    simp (maxSteps := 4000000) (disch := omega) only [ah, am, Nat.reduceEqDiff, reduceCtorEq, Nat.reduceAdd, Nat.reduceLeDiff, Nat.reduceMul, Nat.reduceLT, if_true, if_false, true_and, and_true, and_self, Nat.reduceBEq, QOp.loads, boxO, bslO, buildO, cutL, fillV, putL, w53, v53, R, W, encClip, i64w]
    refine stepI.split (fun hc => ?_) (fun hc => ?_)
    · have hpc : pieceS fr to pos l[i] = [⟨l[i].src, if l[i].src = 0 then 0 else l[i].inn + max fr pos - pos, min to (pos + l[i].len) - max fr pos⟩] := if_pos hc
      by_cases hg : l[i].src = 0
      · have hg' : decide (l[i].src = 0) = true := decide_eq_true hg
        obtain ⟨v2, H2, ea, F2, X⟩ := F.app1k [encClip l[i], encClip ⟨l[i].src, 0, min to (pos + l[i].len) - max fr pos⟩] ⟨l[i].src, 0, min to (pos + l[i].len) - max fr pos⟩ (bytes := 24) (by omega)
        have X := (X 0 _ rfl).1
        simp only [more_more, size_more, List.cons_append, List.nil_append, List.length_cons, List.length_nil, Nat.zero_add, encClip, Nat.reduceAdd] at ea
        simp only [Nat.add_zero, encClip] at X
        simp (maxSteps := 4000000) (disch := omega) only [ah, am, Nat.reduceEqDiff, reduceCtorEq, Nat.reduceAdd, Nat.reduceLeDiff, Nat.reduceMul, Nat.reduceLT, if_true, if_false, true_and, and_true, and_self, Nat.reduceBEq, QOp.loads, boxO, bslO, buildO, cutL, fillV, putL, w53, v53, R, W, encClip, i64w, hg', ea, X]
        refine ⟨hi', _, by rw [Sm], ?_⟩
        rw [J, hpc, if_pos hg]; exact F2
      · have hg' : decide (l[i].src = 0) = false := decide_eq_false hg
        obtain ⟨v2, H2, ea, F2, X⟩ := F.app1k [encClip l[i], encClip ⟨l[i].src, l[i].inn + max fr pos - pos, min to (pos + l[i].len) - max fr pos⟩] ⟨l[i].src, l[i].inn + max fr pos - pos, min to (pos + l[i].len) - max fr pos⟩ (bytes := 24) (by omega)
        have X := (X 0 _ rfl).1
        simp only [more_more, size_more, List.cons_append, List.nil_append, List.length_cons, List.length_nil, Nat.zero_add, encClip, Nat.reduceAdd] at ea
        simp only [Nat.add_zero, encClip] at X
        simp (maxSteps := 4000000) (disch := omega) only [ah, am, Nat.reduceEqDiff, reduceCtorEq, Nat.reduceAdd, Nat.reduceLeDiff, Nat.reduceMul, Nat.reduceLT, if_true, if_false, true_and, and_true, and_self, Nat.reduceBEq, QOp.loads, boxO, bslO, buildO, cutL, fillV, putL, w53, v53, R, W, encClip, i64w, hg', ea, X]
        refine ⟨hi', _, by rw [Sm], ?_⟩
        rw [J, hpc, if_neg hg]; exact F2
    · have hpc : pieceS fr to pos l[i] = [] := if_neg hc
      simp (maxSteps := 4000000) (disch := omega) only [ah, am, Nat.reduceEqDiff, reduceCtorEq, Nat.reduceAdd, Nat.reduceLeDiff, Nat.reduceMul, Nat.reduceLT, if_true, if_false, true_and, and_true, and_self, Nat.reduceBEq, QOp.loads, boxO, bslO, buildO, cutL, fillV, putL, w53, v53, R, W, encClip, i64w]
      refine ⟨hi', _, by rw [Sm], ?_⟩
      rw [J, hpc, List.append_nil]; exact F.ext (Ext.more _ _)
  · simp (maxSteps := 4000000) (disch := omega) only [ah, am, Nat.reduceEqDiff, reduceCtorEq, Nat.reduceAdd, Nat.reduceLeDiff, Nat.reduceMul, Nat.reduceLT, if_true, if_false, true_and, and_true, and_self, Nat.reduceBEq, QOp.loads, boxO, bslO, buildO, cutL, fillV, putL, w53, v53, R, W]
    obtain rfl : i = l.length := by omega
    rw [List.take_length] at F
    exact F
end Go.Proofs.Ytbnppofkpgfhnaa
