import Derived.Test.YtdagajblnlemaaaP5
import Derived.Test.YtdagajblnlemaaaP8b
namespace Go.Proofs.Ytdagajblnlemaaa
open Go Go.Ah
set_option linter.unusedSimpArgs false
set_option linter.unusedVariables false
set_option maxRecDepth 10000
set_option maxHeartbeats 4000000
/-! 12 loop.example/g00066/impl.Pruned: parameters 1, live [0], slots [0:nodes, 1:nodes, 3:wanted, 4:i, 5:n, 6:one, 7:two, 8:_, 9:places, 10:out, 11:i, 12:n, 13:one, 14:two, 15:_] -/
def c12_0 : List SOper := [⟨some 2, .q (.mv (.c (.slice none 0 0))), none⟩]
def c12_1 : List SOper := [⟨some 16, .q (.mv (.t 0)), none⟩, ⟨some 17, .e (.call 38 [(.t 16)]), none⟩, ⟨some 18, .q (.not (.t 17)), none⟩]
def c12_2 : List SOper := [⟨some 2, .q (.mv (.c (.slice none 0 0))), none⟩]
def c12_3 : SCode := .seq (.region c12_2 [2]) .ret
def c12_4 : SCode := .cond (.t 18) c12_3 .skip
def c12_5 : SCode := .seq (.region c12_1 [0, 18]) c12_4
def c12_6 : List SOper := [⟨some 19, .q (.mv (.t 0)), none⟩, ⟨some 20, .q (.len (.t 19)), none⟩, ⟨some 21, .a (.mks 1 1 [(.bool false)] (.t 20) (.t 20)), none⟩, ⟨some 3, .a (.new [(.slice none 0 0)]), none⟩, ⟨none, .e (.st 1 (.t 3) (.t 21)), none⟩]
def c12_7 : List SOper := [⟨some 22, .q (.ld (.t 3)), none⟩, ⟨some 23, .q (.mv (.t 0)), none⟩, ⟨some 24, .q (.len (.t 23)), none⟩, ⟨some 25, .q (.bin .sub (.t 24) (.c (.int .i64 1))), none⟩, ⟨some 26, .q (.ia 1 (.t 22) (.t 25)), none⟩, ⟨none, .e (.st 1 (.t 26) (.c (.bool true))), none⟩]
def c12_8 : List SOper := [⟨some 27, .q (.mv (.t 0)), none⟩, ⟨some 28, .e (.call 39 [(.t 27)]), none⟩]
def c12_9 : SCode := .cond (.t 28) .skip .skip
def c12_10 : SCode := .block 0 c12_9
def c12_11 : SCode := .seq (.region c12_8 [0, 3, 28]) c12_10
def c12_12 : List SOper := [⟨some 65, .q (.mv (.t 0)), none⟩, ⟨some 66, .q (.len (.t 65)), none⟩, ⟨some 67, .a (.mks 8 1 [(.int .i64 0)] (.t 66) (.t 66)), none⟩, ⟨some 68, .a (.bsl 0 4 [] []), none⟩, ⟨some 9, .q (.mv (.t 67)), none⟩, ⟨some 10, .q (.mv (.t 68)), none⟩]
def c12_13 : List SOper := [⟨some 69, .q (.mv (.t 0)), none⟩, ⟨some 70, .q (.len (.t 69)), none⟩, ⟨some 71, .q (.mv (.c (.int .i64 0))), none⟩]
def c12_14 : List SOper := [⟨some 72, .q (.bin .lss (.t 71) (.t 70)), none⟩]
def c12_15 : SCode := .cond (.t 72) .skip (.exit 2)
def c12_16 : List SOper := [⟨some 73, .q (.mv (.t 71)), none⟩, ⟨some 74, .q (.ia 4 (.t 69) (.t 71)), none⟩, ⟨some 75, .q (.ldn 4 (.t 74)), none⟩, ⟨some 12, .a (.new [(.int .i64 0), (.int .i64 0), (.int .i64 0), (.float .f64 0)]), none⟩, ⟨some 11, .q (.mv (.t 73)), none⟩, ⟨none, .e (.st 4 (.t 12) (.t 75)), none⟩]
def c12_17 : List SOper := [⟨some 76, .q (.ld (.t 3)), none⟩, ⟨some 77, .q (.mv (.t 11)), none⟩, ⟨some 78, .q (.ia 1 (.t 76) (.t 77)), none⟩, ⟨some 79, .q (.ld (.t 78)), none⟩, ⟨some 80, .q (.not (.t 79)), none⟩]
def c12_18 : SCode := .cond (.t 80) (.exit 3) .skip
def c12_19 : SCode := .seq (.region c12_17 [3, 9, 10, 11, 12, 69, 70, 71, 80]) c12_18
def c12_20 : List SOper := [⟨some 81, .q (.mv (.t 9)), none⟩, ⟨some 82, .q (.mv (.t 11)), none⟩, ⟨some 83, .q (.mv (.t 10)), none⟩, ⟨some 84, .q (.len (.t 83)), none⟩, ⟨some 85, .q (.ia 1 (.t 81) (.t 82)), none⟩, ⟨none, .e (.st 1 (.t 85) (.t 84)), none⟩]
def c12_21 : List SOper := [⟨some 87, .q (.ldn 4 (.t 12)), none⟩, ⟨some 88, .e (.call 40 [(.t 87)]), none⟩, ⟨some 86, .q (.mv (.t 88)), none⟩, ⟨some 89, .q (.ext (.t 86) 0), none⟩, ⟨some 90, .q (.ext (.t 86) 1), none⟩, ⟨some 91, .q (.ext (.t 86) 2), none⟩, ⟨some 13, .q (.mv (.t 89)), none⟩, ⟨some 14, .q (.mv (.t 90)), none⟩, ⟨some 15, .q (.mv (.t 91)), none⟩]
def c12_22 : List SOper := [⟨some 92, .q (.mv (.t 13)), none⟩]
def c12_23 : List SOper := [⟨some 93, .q (.mv (.t 9)), none⟩, ⟨some 94, .q (.fa 1 (.t 12)), none⟩, ⟨some 95, .q (.ld (.t 94)), none⟩, ⟨some 96, .q (.ia 1 (.t 93) (.t 95)), none⟩, ⟨some 97, .q (.ld (.t 96)), none⟩, ⟨some 98, .q (.fa 1 (.t 12)), none⟩, ⟨none, .e (.st 1 (.t 98) (.t 97)), none⟩]
def c12_24 : List SOper := [⟨some 99, .q (.mv (.t 14)), none⟩]
def c12_25 : List SOper := [⟨some 100, .q (.mv (.t 9)), none⟩, ⟨some 101, .q (.fa 2 (.t 12)), none⟩, ⟨some 102, .q (.ld (.t 101)), none⟩, ⟨some 103, .q (.ia 1 (.t 100) (.t 102)), none⟩, ⟨some 104, .q (.ld (.t 103)), none⟩, ⟨some 105, .q (.fa 2 (.t 12)), none⟩, ⟨none, .e (.st 1 (.t 105) (.t 104)), none⟩]
def c12_26 : SCode := .cond (.t 99) (.region c12_25 [3, 9, 10, 12, 69, 70, 71]) .skip
def c12_27 : SCode := .seq (.region c12_24 [3, 9, 10, 12, 69, 70, 71, 99]) c12_26
def c12_28 : SCode := .seq (.region c12_23 [3, 9, 10, 12, 14, 69, 70, 71]) c12_27
def c12_29 : SCode := .cond (.t 92) c12_28 .skip
def c12_30 : SCode := .seq (.region c12_22 [3, 9, 10, 12, 14, 69, 70, 71, 92]) c12_29
def c12_31 : SCode := .seq (.region c12_21 [3, 9, 10, 12, 13, 14, 69, 70, 71]) c12_30
def c12_32 : List SOper := [⟨some 106, .q (.mv (.t 10)), none⟩, ⟨some 107, .q (.ldn 4 (.t 12)), none⟩, ⟨some 108, .a (.bsl 1 4 [(.int .i64 0), (.int .i64 0), (.int .i64 0), (.float .f64 0)] [(0, 4, (.t 107))]), none⟩, ⟨some 109, .e (.app 32 4 (.t 106) (.t 108)), none⟩, ⟨some 10, .q (.mv (.t 109)), none⟩]
def c12_33 : SCode := .seq c12_31 (.region c12_32 [3, 9, 10, 69, 70, 71])
def c12_34 : SCode := .seq (.region c12_20 [3, 9, 10, 12, 69, 70, 71]) c12_33
def c12_35 : SCode := .seq c12_19 c12_34
def c12_36 : SCode := .seq (.region c12_16 [3, 9, 10, 11, 12, 69, 70, 71]) c12_35
def c12_37 : SCode := .block 3 c12_36
def c12_38 : List SOper := [⟨some 110, .q (.bin .add (.t 71) (.c (.int .i64 1))), none⟩, ⟨some 71, .q (.mv (.t 110)), none⟩]
def c12_39 : SCode := .seq c12_37 (.region c12_38 [3, 9, 10, 69, 70, 71])
def c12_40 : SCode := .seq c12_15 c12_39
def c12_41 : SCode := .seq (.region c12_14 [3, 9, 10, 69, 70, 71, 72]) c12_40
def c12_42 : SCode := .loop c12_41
def c12_43 : SCode := .block 2 c12_42
def c12_44 : SCode := .seq (.region c12_13 [3, 9, 10, 69, 70, 71]) c12_43
def c12_45 : List SOper := [⟨some 111, .q (.mv (.t 10)), none⟩, ⟨some 2, .q (.mv (.t 111)), none⟩]
def c12_46 : SCode := .seq (.region c12_45 [2]) .ret
def c12_47 : SCode := .seq c12_44 c12_46
def c12_48 : SCode := .seq (.region c12_12 [0, 3, 9, 10]) c12_47
def c12_49 : SCode := .seq c12_11 c12_48
def c12_50 : SCode := .seq (.region c12_7 [0, 3]) c12_49
def c12_51 : SCode := .seq (.region c12_6 [0, 3]) c12_50
def c12_52 : SCode := .seq c12_5 c12_51
def c12_53 : SCode := .seq (.region c12_0 [0]) c12_52
def c12 : SCode := c12_53
theorem w12 : type_of% (And.intro (uR Try.prog c12_0.eq_1) (And.intro (uR Try.prog c12_1.eq_1) (And.intro (uR Try.prog c12_2.eq_1) (And.intro (uC Try.prog c12_3.eq_1) (And.intro (uC Try.prog c12_4.eq_1) (And.intro (uC Try.prog c12_5.eq_1) (And.intro (uR Try.prog c12_6.eq_1) (And.intro (uR Try.prog c12_7.eq_1) (And.intro (uR Try.prog c12_8.eq_1) (And.intro (uC Try.prog c12_9.eq_1) (And.intro (uC Try.prog c12_10.eq_1) (And.intro (uC Try.prog c12_11.eq_1) (And.intro (uR Try.prog c12_12.eq_1) (And.intro (uR Try.prog c12_13.eq_1) (And.intro (uR Try.prog c12_14.eq_1) (And.intro (uC Try.prog c12_15.eq_1) (And.intro (uR Try.prog c12_16.eq_1) (And.intro (uR Try.prog c12_17.eq_1) (And.intro (uC Try.prog c12_18.eq_1) (And.intro (uC Try.prog c12_19.eq_1) (And.intro (uR Try.prog c12_20.eq_1) (And.intro (uR Try.prog c12_21.eq_1) (And.intro (uR Try.prog c12_22.eq_1) (And.intro (uR Try.prog c12_23.eq_1) (And.intro (uR Try.prog c12_24.eq_1) (And.intro (uR Try.prog c12_25.eq_1) (And.intro (uC Try.prog c12_26.eq_1) (And.intro (uC Try.prog c12_27.eq_1) (And.intro (uC Try.prog c12_28.eq_1) (And.intro (uC Try.prog c12_29.eq_1) (And.intro (uC Try.prog c12_30.eq_1) (And.intro (uC Try.prog c12_31.eq_1) (And.intro (uR Try.prog c12_32.eq_1) (And.intro (uC Try.prog c12_33.eq_1) (And.intro (uC Try.prog c12_34.eq_1) (And.intro (uC Try.prog c12_35.eq_1) (And.intro (uC Try.prog c12_36.eq_1) (And.intro (uC Try.prog c12_37.eq_1) (And.intro (uR Try.prog c12_38.eq_1) (And.intro (uC Try.prog c12_39.eq_1) (And.intro (uC Try.prog c12_40.eq_1) (And.intro (uC Try.prog c12_41.eq_1) (And.intro (uC Try.prog c12_42.eq_1) (And.intro (uC Try.prog c12_43.eq_1) (And.intro (uC Try.prog c12_44.eq_1) (And.intro (uR Try.prog c12_45.eq_1) (And.intro (uC Try.prog c12_46.eq_1) (And.intro (uC Try.prog c12_47.eq_1) (And.intro (uC Try.prog c12_48.eq_1) (And.intro (uC Try.prog c12_49.eq_1) (And.intro (uC Try.prog c12_50.eq_1) (And.intro (uC Try.prog c12_51.eq_1) (And.intro (uC Try.prog c12_52.eq_1) (And.intro (uC Try.prog c12_53.eq_1) (uC Try.prog c12.eq_1))))))))))))))))))))))))))))))))))))))))))))))))))))))) := (And.intro (uR Try.prog c12_0.eq_1) (And.intro (uR Try.prog c12_1.eq_1) (And.intro (uR Try.prog c12_2.eq_1) (And.intro (uC Try.prog c12_3.eq_1) (And.intro (uC Try.prog c12_4.eq_1) (And.intro (uC Try.prog c12_5.eq_1) (And.intro (uR Try.prog c12_6.eq_1) (And.intro (uR Try.prog c12_7.eq_1) (And.intro (uR Try.prog c12_8.eq_1) (And.intro (uC Try.prog c12_9.eq_1) (And.intro (uC Try.prog c12_10.eq_1) (And.intro (uC Try.prog c12_11.eq_1) (And.intro (uR Try.prog c12_12.eq_1) (And.intro (uR Try.prog c12_13.eq_1) (And.intro (uR Try.prog c12_14.eq_1) (And.intro (uC Try.prog c12_15.eq_1) (And.intro (uR Try.prog c12_16.eq_1) (And.intro (uR Try.prog c12_17.eq_1) (And.intro (uC Try.prog c12_18.eq_1) (And.intro (uC Try.prog c12_19.eq_1) (And.intro (uR Try.prog c12_20.eq_1) (And.intro (uR Try.prog c12_21.eq_1) (And.intro (uR Try.prog c12_22.eq_1) (And.intro (uR Try.prog c12_23.eq_1) (And.intro (uR Try.prog c12_24.eq_1) (And.intro (uR Try.prog c12_25.eq_1) (And.intro (uC Try.prog c12_26.eq_1) (And.intro (uC Try.prog c12_27.eq_1) (And.intro (uC Try.prog c12_28.eq_1) (And.intro (uC Try.prog c12_29.eq_1) (And.intro (uC Try.prog c12_30.eq_1) (And.intro (uC Try.prog c12_31.eq_1) (And.intro (uR Try.prog c12_32.eq_1) (And.intro (uC Try.prog c12_33.eq_1) (And.intro (uC Try.prog c12_34.eq_1) (And.intro (uC Try.prog c12_35.eq_1) (And.intro (uC Try.prog c12_36.eq_1) (And.intro (uC Try.prog c12_37.eq_1) (And.intro (uR Try.prog c12_38.eq_1) (And.intro (uC Try.prog c12_39.eq_1) (And.intro (uC Try.prog c12_40.eq_1) (And.intro (uC Try.prog c12_41.eq_1) (And.intro (uC Try.prog c12_42.eq_1) (And.intro (uC Try.prog c12_43.eq_1) (And.intro (uC Try.prog c12_44.eq_1) (And.intro (uR Try.prog c12_45.eq_1) (And.intro (uC Try.prog c12_46.eq_1) (And.intro (uC Try.prog c12_47.eq_1) (And.intro (uC Try.prog c12_48.eq_1) (And.intro (uC Try.prog c12_49.eq_1) (And.intro (uC Try.prog c12_50.eq_1) (And.intro (uC Try.prog c12_51.eq_1) (And.intro (uC Try.prog c12_52.eq_1) (And.intro (uC Try.prog c12_53.eq_1) (uC Try.prog c12.eq_1)))))))))))))))))))))))))))))))))))))))))))))))))))))))
def v12 : List RV := [.t 2]

/-! ### What stands behind the loop of impl.Pruned -/
theorem ro_ld {K : Heap} {i : Nat} {cs : List Value} {g : Nat} {r : Bool} (h : K.get i = some ⟨cs, g, r, true⟩) (j : Nat) : ldV K (.pointer (some ⟨i, j, none⟩)) = cs[j]? := by
  simp [ldV, rd, h]
theorem ro_ext {h K : Heap} (e : Ext h K) {i : Nat} {ob : Ah.Obj} (g : h.get i = some ob) : K.get i = some ob := by rw [e.2 i (Heap.get_lt g)]; exact g
theorem rest_ok (h : Heap) (v : Value) (l : List Node) (ok : graphOk l) (need : List Bool) (hnl : need.length = l.length) (s : SlT h encNode 4 v l) {nb ib gn gi : Nat} {rn ri : Bool} (gN : h.get nb = some ⟨need.map Value.bool, gn, rn, true⟩)
    (gB : h.get ib = some ⟨[.slice (some ⟨nb, 0, none⟩) l.length 1], gi, ri, true⟩) :
    SW Try.prog c12_48 (retQ v12 fun r h' => Fresh h h' encNode 4 r (outK l need l.length).2) [(0, v), (3, .pointer (some ⟨ib, 0, none⟩))] h := by
  have hn := ok.1
  have nodes := ok.2
  have R := s.rulesN
  have hrepI : (List.replicate l.length [Value.int .i64 0]).flatten = (List.replicate l.length (0 : Int)).map (Value.int .i64) := by simp
  have hl0 : l.length ≤ 281474976710656 := by omega
  skip
  simp (maxSteps := 4000000) (disch := omega) only [ah, am, Nat.reduceEqDiff, reduceCtorEq, Nat.reduceAdd, Nat.reduceLeDiff, Nat.reduceMul, Nat.reduceLT, if_true, if_false, true_and, and_true, and_self, Nat.reduceBEq, QOp.loads, boxO, bslO, buildO, cutL, fillV, putL, w12, v12, R.1, mksV_nat, hrepI]
  obtain ⟨tb, htb⟩ : ∃ q, q = h.size := ⟨_, rfl⟩
  have F0 : Fk [] h (h.more [(List.replicate l.length (0 : Int)).map (Value.int .i64), []]) encNode 4 (.slice (some ⟨h.size + 1, 0, none⟩) 0 4) (outK l need 0).2 [(tb, (outK l need 0).1.map (Value.int .i64))] := by
    have e1 := Ext.more h [(List.replicate l.length (0 : Int)).map (Value.int .i64)]
    have f0 := Fresh.new0 (enc := encNode) (sz := 4) (h.more [(List.replicate l.length (0 : Int)).map (Value.int .i64)]) encNode_len (by omega)
    have hsz : (h.more [(List.replicate l.length (0 : Int)).map (Value.int .i64)]).size = h.size + 1 := by rw [size_more]; rfl
    rw [more_more, hsz] at f0
    obtain ⟨x0, g, hg, O⟩ := f0
    rw [hsz] at hg
    have B0 := Bx.new h ((List.replicate l.length (0 : Int)).map (Value.int .i64)) [[]]
    refine ⟨(e1.trans x0).toX, ⟨g, by omega, O, fun p hp => ?_⟩, fun p hp => ?_⟩
    · simp only [List.mem_singleton] at hp; subst hp; simp only; omega
    · simp only [List.mem_singleton] at hp; subst hp; rw [htb]; exact ⟨Nat.le_refl _, B0⟩
  rw [← htb] at F0 ⊢
  have hnt : nb ≠ tb := by have := Heap.get_lt gN; omega
  have hit : ib ≠ tb := by have := Heap.get_lt gB; omega
  refine SW_loop_up (fun i E K => ∃ ov, Fk [] h K encNode 4 ov (outK l need i).2 [(tb, (outK l need i).1.map (Value.int .i64))] ∧
    E = [(3, .pointer (some ⟨ib, 0, none⟩)), (9, .slice (some ⟨tb, 0, none⟩) l.length 1), (10, ov), (69, v), (70, .int .i64 (l.length : Int)), (71, .int .i64 (i : Int))]) l.length 0 (by omega) ⟨_, F0, rfl⟩ ?_
  clear F0 R
  rintro i E K hi ⟨ov, F, rfl⟩
  have hol := outK_len l need i
  have EK : Ext h K := F.ext.ext
  have RK := (s.ext EK).rulesN
  have wi : IntKind.i64.wrap ((i : Int) + 1) = ((i + 1 : Nat) : Int) := i64e (by omega) (by omega)
  by_cases c0 : i < l.length
  rotate_left
  · have hin : i = l.length := by omega
    subst hin
    simp (maxSteps := 4000000) (disch := omega) only [ah, am, Nat.reduceEqDiff, reduceCtorEq, Nat.reduceAdd, Nat.reduceLeDiff, Nat.reduceMul, Nat.reduceLT, if_true, if_false, true_and, and_true, and_self, Nat.reduceBEq, QOp.loads, boxO, bslO, buildO, cutL, fillV, putL, w12, v12, decide_eq_false (show ¬ ((l.length : Int) < (l.length : Int)) by omega)]
    exact F.fresh
  have lt1 : decide ((i : Int) < (l.length : Int)) = true := decide_eq_true (by omega)
  have IA := RK.2.1 .i64 i c0
  have LN : ldnV K 4 (ptrAt v (i * 4)) = some (.agg (encNode l[i]).toArray) := RK.2.2.2.2.2 i c0
  have ian : iaV 1 (.slice (some ⟨nb, 0, none⟩) l.length 1) (.int .i64 (i : Int)) = some (.pointer (some ⟨nb, i, none⟩)) := by rw [box_ia (by omega) (by omega)]; simp
  have iat : iaV 1 (.slice (some ⟨tb, 0, none⟩) l.length 1) (.int .i64 (i : Int)) = some (.pointer (some ⟨tb, i, none⟩)) := by rw [box_ia (by omega) (by omega)]; simp
  have ldB : ∀ cs, ldV (K.more [cs]) (.pointer (some ⟨ib, 0, none⟩)) = some (.slice (some ⟨nb, 0, none⟩) l.length 1) := fun cs => by
    rw [ro_ld (ro_ext (EK.trans (Ext.more K [cs])) gB)]; rfl
  have ldN : ∀ cs, ldV (K.more [cs]) (.pointer (some ⟨nb, i, none⟩)) = some (.bool (need.getD i false)) := fun cs => by
    rw [ro_ld (ro_ext (EK.trans (Ext.more K [cs])) gN), List.getElem?_map, List.getD, List.getElem?_eq_getElem (by omega)]; rfl
  have hnx : outK l need (i + 1) = outS l need i (outK l need i) := rfl
  by_cases cn : need.getD i false = true
  rotate_left
  · have cn' : need.getD i false = false := by simpa using cn
    have hst : outK l need (i + 1) = outK l need i := by rw [hnx]; unfold outS; rw [if_neg cn]
    rw [cn'] at ldN
    simp (maxSteps := 4000000) (disch := omega) only [ah, am, Nat.reduceEqDiff, reduceCtorEq, Nat.reduceAdd, Nat.reduceLeDiff, Nat.reduceMul, Nat.reduceLT, if_true, if_false, true_and, and_true, and_self, Nat.reduceBEq, QOp.loads, boxO, bslO, buildO, cutL, fillV, putL, w12, v12, lt1, IA, LN, encNode, fl, ldB, ian, ldN, Bool.not_false, wi]
    refine ⟨c0, ov, by rw [hst]; exact F.step (Ext.more _ _), rfl⟩
  rw [cn] at ldN
  have hst : outK l need (i + 1) = ((outK l need i).1.set i (outK l need i).2.length, (outK l need i).2 ++ [⟨(nd l i).kind, if (nd l i).kind ≠ 1 then ((outK l need i).1.set i (outK l need i).2.length).getD (nd l i).inn.toNat 0 else (nd l i).inn, if (nd l i).kind = 4 then ((outK l need i).1.set i (outK l need i).2.length).getD (nd l i).in2.toNat 0 else (nd l i).in2, (nd l i).v⟩]) := by
    rw [hnx]; unfold outS; rw [if_pos cn]
  rw [nd_eq c0] at hst
  rw [hst]
  have nk := nodeOk_in (nodes i c0)
  generalize outK l need i = p at *
  obtain ⟨to, out⟩ := p
  simp only at F hol ⊢
  generalize hx : l[i] = x at *
  obtain ⟨xk, xi, xj, xv⟩ := x
  simp only [encNode] at LN nk ⊢
  have hKs : tb ≠ K.size := by have := Heap.get_lt (F.box (tb, to.map (Value.int .i64)) (by simp)).2; omega
  have F1 := F.more [[Value.int .i64 xk, .int .i64 xi, .int .i64 xj, .float .f64 xv]]
  have F1 : Fk [] h (K.more [[Value.int .i64 xk, .int .i64 xi, .int .i64 xj, .float .f64 xv]]) encNode 4 ov out [(tb, to.map (Value.int .i64)), (K.size, [Value.int .i64 xk, .int .i64 xi, .int .i64 xj, .float .f64 xv])] := by
    simpa [boxesAt] using F1
  obtain ⟨K1, es1, F2, G1⟩ := Fk_putI F1 (Ne.symm hKs) (j := i) (by omega) (out.length : Int)
  have RO := (F.step (Ext.more K [[Value.int .i64 xk, .int .i64 xi, .int .i64 xj, .float .f64 xv]])).slt.rulesN.1
  have LD := (F2.ld (i := K.size) (cs := [Value.int .i64 xk, .int .i64 xi, .int .i64 xj, .float .f64 xv]) (by simp)).2
  simp (maxSteps := 4000000) (disch := omega) only [ah, am, Nat.reduceEqDiff, reduceCtorEq, Nat.reduceAdd, Nat.reduceLeDiff, Nat.reduceMul, Nat.reduceLT, if_true, if_false, true_and, and_true, and_self, Nat.reduceBEq, QOp.loads, boxO, bslO, buildO, cutL, fillV, putL, w12, v12, lt1, IA, LN, fl, ldB, ian, ldN, Bool.not_true, iat, RO, es1, LD]
  refine stepC.of (takes_ok K1 ⟨xk, xi, xj, xv⟩) ?_
  rintro _ K2 ⟨e2, rfl⟩
  have F3 := F2.step e2
  obtain ⟨nbx, hnbx⟩ : ∃ q, q = K.size := ⟨_, rfl⟩
  rw [← hnbx] at F3 hKs ⊢
  obtain ⟨to1, hto1⟩ : ∃ q, q = to.set i (out.length : Int) := ⟨_, rfl⟩
  have hl1 : to1.length = l.length := by rw [hto1]; simp [hol.1]
  rw [← hto1] at F3 ⊢
  clear F F1 F2 es1 LD G1
  have LT3 : ∀ j, j < l.length → ldV K2 (.pointer (some ⟨tb, j, none⟩)) = some (.int .i64 (to1.getD j 0)) := fun j hj => box_ldI (F3.box (tb, to1.map (Value.int .i64)) (by simp)).2 (by omega)
  have LD3 := F3.ld (i := nbx) (cs := [Value.int .i64 xk, .int .i64 xi, .int .i64 xj, .float .f64 xv]) (by simp)
  by_cases k1 : xk = 1
  · subst k1
    obtain ⟨w, K3, ap, F4⟩ := F3.app1 [] ⟨1, xi, xj, xv⟩ (bytes := 32) (by have := hol.2; omega)
    simp only [encNode, List.nil_append, List.length_nil, Nat.add_zero] at ap
    simp (maxSteps := 4000000) (disch := omega) only [ah, am, Nat.reduceEqDiff, reduceCtorEq, Nat.reduceAdd, Nat.reduceLeDiff, Nat.reduceMul, Nat.reduceLT, if_true, if_false, true_and, and_true, and_self, Nat.reduceBEq, QOp.loads, boxO, bslO, buildO, cutL, fillV, putL, w12, v12, has1, has2, hasV, LD3, ap, wi, fl, ne_eq, not_true, decide_false]
    refine ⟨c0, w, ?_, rfl⟩
    exact F4.sub (fun p hp => by rw [List.mem_singleton] at hp; subst hp; simp)
  have hin := nk.1 k1
  have iax := box_ia (b := tb) (n := l.length) hin.1 (by omega)
  have F3' := F3.sub (B' := [(nbx, [Value.int .i64 xk, .int .i64 xi, .int .i64 xj, .float .f64 xv]), (tb, to1.map (Value.int .i64))]) (fun p hp => by simp at hp ⊢; rcases hp with hp | hp <;> simp [hp])
  obtain ⟨K4, es4, F4, G4, _⟩ := F3'.put2 (Ne.symm hKs) (o := 1) (n := 1) (y := .int .i64 (to1.getD xi.toNat 0)) rfl (by simp) rfl
  rw [if_pos k1]
  have hsp : splice [Value.int .i64 xk, .int .i64 xi, .int .i64 xj, .float .f64 xv] 1 (Value.int .i64 (to1.getD xi.toNat 0)).cells.toList = [Value.int .i64 xk, .int .i64 (to1.getD xi.toNat 0), .int .i64 xj, .float .f64 xv] := rfl
  rw [hsp] at F4
  have LD4 := F4.ld (i := nbx) (cs := [Value.int .i64 xk, .int .i64 (to1.getD xi.toNat 0), .int .i64 xj, .float .f64 xv]) (by simp)
  have L1 := LT3 xi.toNat (by omega)
  have hb1 : has1 xk = true := by simp [has1, k1]
  by_cases k4 : xk = 4
  · subst k4
    have hin2 := nk.2.1 rfl
    have iay := box_ia (b := tb) (n := l.length) hin2.1 (by omega)
    have L2 : ldV K4 (.pointer (some ⟨tb, xj.toNat, none⟩)) = some (.int .i64 (to1.getD xj.toNat 0)) := box_ldI (F4.box (tb, to1.map (Value.int .i64)) (by simp)).2 (by omega)
    obtain ⟨K5, es5, F5, G5, _⟩ := F4.put2 (Ne.symm hKs) (o := 2) (n := 1) (y := .int .i64 (to1.getD xj.toNat 0)) rfl (by simp) rfl
    have hsp2 : splice [Value.int .i64 4, .int .i64 (to1.getD xi.toNat 0), .int .i64 xj, .float .f64 xv] 2 (Value.int .i64 (to1.getD xj.toNat 0)).cells.toList = [Value.int .i64 4, .int .i64 (to1.getD xi.toNat 0), .int .i64 (to1.getD xj.toNat 0), .float .f64 xv] := rfl
    rw [hsp2] at F5
    have LD5 := F5.ld (i := nbx) (cs := [Value.int .i64 4, .int .i64 (to1.getD xi.toNat 0), .int .i64 (to1.getD xj.toNat 0), .float .f64 xv]) (by simp)
    obtain ⟨w, K6, ap, F6⟩ := F5.app1 [] ⟨4, to1.getD xi.toNat 0, to1.getD xj.toNat 0, xv⟩ (bytes := 32) (by have := hol.2; omega)
    simp only [encNode, List.nil_append, List.length_nil, Nat.add_zero] at ap
    have hb2 : has2 4 = true := rfl
    simp (maxSteps := 4000000) (disch := omega) only [ah, am, Nat.reduceEqDiff, reduceCtorEq, Nat.reduceAdd, Nat.reduceLeDiff, Nat.reduceMul, Nat.reduceLT, if_true, if_false, true_and, and_true, and_self, Nat.reduceBEq, QOp.loads, boxO, bslO, buildO, cutL, fillV, putL, w12, v12, hb1, hb2, LD3, LD4, LD5, L1, L2, iax, iay, es4, es5, ap, wi, fl]
    refine ⟨c0, w, ?_, rfl⟩
    exact F6.sub (fun p hp => by rw [List.mem_singleton] at hp; subst hp; simp)
  · have hb2 : has2 xk = false := by simp [has2, k4]
    obtain ⟨w, K6, ap, F6⟩ := F4.app1 [] ⟨xk, to1.getD xi.toNat 0, xj, xv⟩ (bytes := 32) (by have := hol.2; omega)
    simp only [encNode, List.nil_append, List.length_nil, Nat.add_zero] at ap
    rw [if_neg k4]
    simp (maxSteps := 4000000) (disch := omega) only [ah, am, Nat.reduceEqDiff, reduceCtorEq, Nat.reduceAdd, Nat.reduceLeDiff, Nat.reduceMul, Nat.reduceLT, if_true, if_false, true_and, and_true, and_self, Nat.reduceBEq, QOp.loads, boxO, bslO, buildO, cutL, fillV, putL, w12, v12, hb1, hb2, LD3, LD4, L1, iax, es4, ap, wi, fl]
    refine ⟨c0, w, ?_, rfl⟩
    exact F6.sub (fun p hp => by rw [List.mem_singleton] at hp; subst hp; simp)
end Go.Proofs.Ytdagajblnlemaaa
