import Derived.Test.YtbnppofkpgfhnaaC1
import Derived.Test.YtbnppofkpgfhnaaAhZ
import Derived.Test.YtbnppofkpgfhnaaI9
namespace Go.Proofs.Ytbnppofkpgfhnaa
open Go Go.Ah
set_option linter.unusedSimpArgs false
set_option linter.unusedVariables false
set_option maxRecDepth 10000
set_option maxHeartbeats 4000000
/-! 31 loop.example/g00066/spec.Turned: parameters 2, live [0, 1], slots [0:a, 1:list, 2:a, 3:list, 6:_, 7:is, 8:out, 9:at, 10:i, 11:x, 12:in, 13:k] -/
def c31_0 : List SOper := [⟨some 4, .q (.mv (.c (.slice none 0 0))), none⟩, ⟨some 5, .q (.mv (.c (.bool false))), none⟩]
def c31_1 : List SOper := [⟨some 15, .q (.mv (.t 0)), none⟩, ⟨some 16, .q (.mv (.t 1)), none⟩, ⟨some 17, .e (.call 22 [(.t 15), (.t 16)]), none⟩, ⟨some 14, .q (.mv (.t 17)), none⟩, ⟨some 18, .q (.ext (.t 14) 0), none⟩, ⟨some 19, .q (.ext (.t 14) 1), none⟩, ⟨some 6, .q (.mv (.t 18)), none⟩, ⟨some 7, .q (.mv (.t 19)), none⟩]
def c31_2 : List SOper := [⟨some 20, .q (.mv (.t 7)), none⟩, ⟨some 21, .q (.not (.t 20)), none⟩]
def c31_3 : List SOper := [⟨some 22, .a (.bsl 0 4 [] []), none⟩, ⟨some 4, .q (.mv (.t 22)), none⟩, ⟨some 5, .q (.mv (.c (.bool false))), none⟩]
def c31_4 : SCode := .seq (.region c31_3 [4, 5]) .ret
def c31_5 : SCode := .cond (.t 21) c31_4 .skip
def c31_6 : SCode := .seq (.region c31_2 [0, 1, 21]) c31_5
def c31_7 : SCode := .seq (.region c31_1 [0, 1, 7]) c31_6
def c31_8 : List SOper := [⟨some 23, .a (.bsl 0 4 [] []), none⟩, ⟨some 8, .q (.mv (.t 23)), none⟩]
def c31_9 : List SOper := [⟨some 9, .q (.mv (.c (.int .i64 0))), none⟩]
def c31_10 : List SOper := [⟨some 10, .q (.mv (.c (.int .i64 0))), none⟩]
def c31_11 : List SOper := [⟨some 24, .q (.mv (.t 10)), none⟩, ⟨some 25, .q (.mv (.t 1)), none⟩, ⟨some 26, .q (.len (.t 25)), none⟩, ⟨some 27, .q (.bin .lss (.t 24) (.t 26)), none⟩]
def c31_12 : SCode := .cond (.t 27) .skip (.exit 0)
def c31_13 : SCode := .seq (.region c31_11 [0, 1, 8, 9, 10, 27]) c31_12
def c31_14 : List SOper := [⟨some 30, .q (.mv (.t 1)), none⟩, ⟨some 31, .q (.mv (.t 10)), none⟩, ⟨some 32, .q (.ia 4 (.t 30) (.t 31)), none⟩, ⟨some 33, .q (.ldn 4 (.t 32)), none⟩, ⟨some 11, .a (.new [(.int .i64 0), (.int .i64 0), (.int .i64 0), (.int .i64 0)]), none⟩, ⟨none, .e (.st 4 (.t 11) (.t 33)), none⟩]
def c31_15 : List SOper := [⟨some 34, .q (.fa 0 (.t 11)), none⟩, ⟨some 35, .q (.ld (.t 34)), none⟩]
def c31_16 : List SOper := [⟨some 37, .q (.bin .eql (.t 35) (.c (.int .i64 1))), none⟩, ⟨some 36, .q (.mv (.t 37)), none⟩]
def c31_17 : List SOper := [⟨some 38, .q (.mv (.t 8)), none⟩, ⟨some 39, .q (.ldn 4 (.t 11)), none⟩, ⟨some 40, .a (.bsl 1 4 [(.int .i64 0), (.int .i64 0), (.int .i64 0), (.int .i64 0)] [(0, 4, (.t 39))]), none⟩, ⟨some 41, .e (.app 32 4 (.t 38) (.t 40)), none⟩, ⟨some 8, .q (.mv (.t 41)), none⟩]
def c31_18 : List SOper := [⟨some 42, .q (.mv (.t 9)), none⟩, ⟨some 43, .q (.fa 3 (.t 11)), none⟩, ⟨some 44, .q (.ld (.t 43)), none⟩, ⟨some 45, .q (.bin .add (.t 42) (.t 44)), none⟩, ⟨some 9, .q (.mv (.t 45)), none⟩]
def c31_19 : SCode := .seq (.region c31_17 [0, 1, 8, 9, 10, 11]) (.region c31_18 [0, 1, 8, 9, 10])
def c31_20 : List SOper := [⟨some 47, .q (.bin .eql (.t 35) (.c (.int .i64 3))), none⟩, ⟨some 46, .q (.mv (.t 47)), none⟩]
def c31_21 : List SOper := [⟨some 48, .q (.mv (.t 8)), none⟩, ⟨some 49, .q (.fa 3 (.t 11)), none⟩, ⟨some 50, .q (.ld (.t 49)), none⟩, ⟨some 51, .q (.build [(.int .i64 0), (.int .i64 0), (.int .i64 0), (.int .i64 0)] [(0, 1, (.c (.int .i64 2))), (3, 1, (.t 50))]), none⟩, ⟨some 52, .a (.bsl 1 4 [(.int .i64 0), (.int .i64 0), (.int .i64 0), (.int .i64 0)] [(0, 4, (.t 51))]), none⟩, ⟨some 53, .e (.app 32 4 (.t 48) (.t 52)), none⟩, ⟨some 8, .q (.mv (.t 53)), none⟩]
def c31_22 : List SOper := [⟨some 55, .q (.bin .eql (.t 35) (.c (.int .i64 2))), none⟩, ⟨some 54, .q (.mv (.t 55)), none⟩]
def c31_23 : List SOper := [⟨some 56, .q (.mv (.t 0)), none⟩, ⟨some 57, .q (.mv (.t 9)), none⟩, ⟨some 58, .q (.mv (.t 9)), none⟩, ⟨some 59, .q (.fa 3 (.t 11)), none⟩, ⟨some 60, .q (.ld (.t 59)), none⟩, ⟨some 61, .q (.bin .add (.t 58) (.t 60)), none⟩, ⟨some 62, .e (.call 53 [(.t 56), (.t 57), (.t 61)]), none⟩, ⟨some 63, .e (.call 52 [(.t 62)]), none⟩, ⟨some 12, .q (.mv (.t 63)), none⟩]
def c31_24 : List SOper := [⟨some 13, .q (.mv (.c (.int .i64 0))), none⟩]
def c31_25 : List SOper := [⟨some 64, .q (.mv (.t 13)), none⟩, ⟨some 65, .q (.mv (.t 12)), none⟩, ⟨some 66, .q (.len (.t 65)), none⟩, ⟨some 67, .q (.bin .lss (.t 64) (.t 66)), none⟩]
def c31_26 : SCode := .cond (.t 67) .skip (.exit 3)
def c31_27 : SCode := .seq (.region c31_25 [0, 1, 8, 9, 10, 11, 12, 13, 67]) c31_26
def c31_28 : List SOper := [⟨some 70, .q (.mv (.t 8)), none⟩, ⟨some 71, .q (.mv (.t 12)), none⟩, ⟨some 72, .q (.mv (.t 13)), none⟩, ⟨some 73, .q (.ia 3 (.t 71) (.t 72)), none⟩, ⟨some 74, .q (.fa 0 (.t 73)), none⟩, ⟨some 75, .q (.ld (.t 74)), none⟩, ⟨some 76, .q (.mv (.t 12)), none⟩, ⟨some 77, .q (.mv (.t 13)), none⟩, ⟨some 78, .q (.ia 3 (.t 76) (.t 77)), none⟩, ⟨some 79, .q (.fa 1 (.t 78)), none⟩, ⟨some 80, .q (.ld (.t 79)), none⟩, ⟨some 81, .q (.mv (.t 12)), none⟩, ⟨some 82, .q (.mv (.t 13)), none⟩, ⟨some 83, .q (.ia 3 (.t 81) (.t 82)), none⟩, ⟨some 84, .q (.fa 2 (.t 83)), none⟩, ⟨some 85, .q (.ld (.t 84)), none⟩, ⟨some 86, .q (.build [(.int .i64 0), (.int .i64 0), (.int .i64 0), (.int .i64 0)] [(0, 1, (.c (.int .i64 3))), (1, 1, (.t 75)), (2, 1, (.t 80)), (3, 1, (.t 85))]), none⟩, ⟨some 87, .a (.bsl 1 4 [(.int .i64 0), (.int .i64 0), (.int .i64 0), (.int .i64 0)] [(0, 4, (.t 86))]), none⟩, ⟨some 88, .e (.app 32 4 (.t 70) (.t 87)), none⟩, ⟨some 8, .q (.mv (.t 88)), none⟩]
def c31_29 : SCode := .block 4 (.region c31_28 [0, 1, 8, 9, 10, 11, 12, 13])
def c31_30 : List SOper := [⟨some 68, .q (.mv (.t 13)), none⟩, ⟨some 69, .q (.bin .add (.t 68) (.c (.int .i64 1))), none⟩, ⟨some 13, .q (.mv (.t 69)), none⟩]
def c31_31 : SCode := .seq c31_29 (.region c31_30 [0, 1, 8, 9, 10, 11, 12, 13])
def c31_32 : SCode := .seq c31_27 c31_31
def c31_33 : SCode := .loop c31_32
def c31_34 : SCode := .block 3 c31_33
def c31_35 : SCode := .seq (.region c31_24 [0, 1, 8, 9, 10, 11, 12, 13]) c31_34
def c31_36 : List SOper := [⟨some 89, .q (.mv (.t 9)), none⟩, ⟨some 90, .q (.fa 3 (.t 11)), none⟩, ⟨some 91, .q (.ld (.t 90)), none⟩, ⟨some 92, .q (.bin .add (.t 89) (.t 91)), none⟩, ⟨some 9, .q (.mv (.t 92)), none⟩]
def c31_37 : SCode := .seq c31_35 (.region c31_36 [0, 1, 8, 9, 10])
def c31_38 : SCode := .seq (.region c31_23 [0, 1, 8, 9, 10, 11, 12]) c31_37
def c31_39 : SCode := .cond (.t 54) c31_38 .skip
def c31_40 : SCode := .seq (.region c31_22 [0, 1, 8, 9, 10, 11, 54]) c31_39
def c31_41 : SCode := .cond (.t 46) (.region c31_21 [0, 1, 8, 9, 10]) c31_40
def c31_42 : SCode := .seq (.region c31_20 [0, 1, 8, 9, 10, 11, 35, 46]) c31_41
def c31_43 : SCode := .cond (.t 36) c31_19 c31_42
def c31_44 : SCode := .seq (.region c31_16 [0, 1, 8, 9, 10, 11, 35, 36]) c31_43
def c31_45 : SCode := .block 2 c31_44
def c31_46 : SCode := .seq (.region c31_15 [0, 1, 8, 9, 10, 11, 35]) c31_45
def c31_47 : SCode := .seq (.region c31_14 [0, 1, 8, 9, 10, 11]) c31_46
def c31_48 : SCode := .block 1 c31_47
def c31_49 : List SOper := [⟨some 28, .q (.mv (.t 10)), none⟩, ⟨some 29, .q (.bin .add (.t 28) (.c (.int .i64 1))), none⟩, ⟨some 10, .q (.mv (.t 29)), none⟩]
def c31_50 : SCode := .seq c31_48 (.region c31_49 [0, 1, 8, 9, 10])
def c31_51 : SCode := .seq c31_13 c31_50
def c31_52 : SCode := .loop c31_51
def c31_53 : SCode := .block 0 c31_52
def c31_54 : SCode := .seq (.region c31_10 [0, 1, 8, 9, 10]) c31_53
def c31_55 : List SOper := [⟨some 93, .q (.mv (.t 8)), none⟩, ⟨some 4, .q (.mv (.t 93)), none⟩, ⟨some 5, .q (.mv (.c (.bool true))), none⟩]
def c31_56 : SCode := .seq (.region c31_55 [4, 5]) .ret
def c31_57 : SCode := .seq c31_54 c31_56
def c31_58 : SCode := .seq (.region c31_9 [0, 1, 8, 9]) c31_57
def c31_59 : SCode := .seq (.region c31_8 [0, 1, 8]) c31_58
def c31_60 : SCode := .seq c31_7 c31_59
def c31_61 : SCode := .seq (.region c31_0 [0, 1]) c31_60
def c31 : SCode := c31_61
theorem w31 : type_of% (And.intro (uR Try.prog c31_0.eq_1) (And.intro (uR Try.prog c31_1.eq_1) (And.intro (uR Try.prog c31_2.eq_1) (And.intro (uR Try.prog c31_3.eq_1) (And.intro (uC Try.prog c31_4.eq_1) (And.intro (uC Try.prog c31_5.eq_1) (And.intro (uC Try.prog c31_6.eq_1) (And.intro (uC Try.prog c31_7.eq_1) (And.intro (uR Try.prog c31_8.eq_1) (And.intro (uR Try.prog c31_9.eq_1) (And.intro (uR Try.prog c31_10.eq_1) (And.intro (uR Try.prog c31_11.eq_1) (And.intro (uC Try.prog c31_12.eq_1) (And.intro (uC Try.prog c31_13.eq_1) (And.intro (uR Try.prog c31_14.eq_1) (And.intro (uR Try.prog c31_15.eq_1) (And.intro (uR Try.prog c31_16.eq_1) (And.intro (uR Try.prog c31_17.eq_1) (And.intro (uR Try.prog c31_18.eq_1) (And.intro (uC Try.prog c31_19.eq_1) (And.intro (uR Try.prog c31_20.eq_1) (And.intro (uR Try.prog c31_21.eq_1) (And.intro (uR Try.prog c31_22.eq_1) (And.intro (uR Try.prog c31_23.eq_1) (And.intro (uR Try.prog c31_24.eq_1) (And.intro (uR Try.prog c31_25.eq_1) (And.intro (uC Try.prog c31_26.eq_1) (And.intro (uC Try.prog c31_27.eq_1) (And.intro (uR Try.prog c31_28.eq_1) (And.intro (uC Try.prog c31_29.eq_1) (And.intro (uR Try.prog c31_30.eq_1) (And.intro (uC Try.prog c31_31.eq_1) (And.intro (uC Try.prog c31_32.eq_1) (And.intro (uC Try.prog c31_33.eq_1) (And.intro (uC Try.prog c31_34.eq_1) (And.intro (uC Try.prog c31_35.eq_1) (And.intro (uR Try.prog c31_36.eq_1) (And.intro (uC Try.prog c31_37.eq_1) (And.intro (uC Try.prog c31_38.eq_1) (And.intro (uC Try.prog c31_39.eq_1) (And.intro (uC Try.prog c31_40.eq_1) (And.intro (uC Try.prog c31_41.eq_1) (And.intro (uC Try.prog c31_42.eq_1) (And.intro (uC Try.prog c31_43.eq_1) (And.intro (uC Try.prog c31_44.eq_1) (And.intro (uC Try.prog c31_45.eq_1) (And.intro (uC Try.prog c31_46.eq_1) (And.intro (uC Try.prog c31_47.eq_1) (And.intro (uC Try.prog c31_48.eq_1) (And.intro (uR Try.prog c31_49.eq_1) (And.intro (uC Try.prog c31_50.eq_1) (And.intro (uC Try.prog c31_51.eq_1) (And.intro (uC Try.prog c31_52.eq_1) (And.intro (uC Try.prog c31_53.eq_1) (And.intro (uC Try.prog c31_54.eq_1) (And.intro (uR Try.prog c31_55.eq_1) (And.intro (uC Try.prog c31_56.eq_1) (And.intro (uC Try.prog c31_57.eq_1) (And.intro (uC Try.prog c31_58.eq_1) (And.intro (uC Try.prog c31_59.eq_1) (And.intro (uC Try.prog c31_60.eq_1) (And.intro (uC Try.prog c31_61.eq_1) (uC Try.prog c31.eq_1))))))))))))))))))))))))))))))))))))))))))))))))))))))))))))))) := (And.intro (uR Try.prog c31_0.eq_1) (And.intro (uR Try.prog c31_1.eq_1) (And.intro (uR Try.prog c31_2.eq_1) (And.intro (uR Try.prog c31_3.eq_1) (And.intro (uC Try.prog c31_4.eq_1) (And.intro (uC Try.prog c31_5.eq_1) (And.intro (uC Try.prog c31_6.eq_1) (And.intro (uC Try.prog c31_7.eq_1) (And.intro (uR Try.prog c31_8.eq_1) (And.intro (uR Try.prog c31_9.eq_1) (And.intro (uR Try.prog c31_10.eq_1) (And.intro (uR Try.prog c31_11.eq_1) (And.intro (uC Try.prog c31_12.eq_1) (And.intro (uC Try.prog c31_13.eq_1) (And.intro (uR Try.prog c31_14.eq_1) (And.intro (uR Try.prog c31_15.eq_1) (And.intro (uR Try.prog c31_16.eq_1) (And.intro (uR Try.prog c31_17.eq_1) (And.intro (uR Try.prog c31_18.eq_1) (And.intro (uC Try.prog c31_19.eq_1) (And.intro (uR Try.prog c31_20.eq_1) (And.intro (uR Try.prog c31_21.eq_1) (And.intro (uR Try.prog c31_22.eq_1) (And.intro (uR Try.prog c31_23.eq_1) (And.intro (uR Try.prog c31_24.eq_1) (And.intro (uR Try.prog c31_25.eq_1) (And.intro (uC Try.prog c31_26.eq_1) (And.intro (uC Try.prog c31_27.eq_1) (And.intro (uR Try.prog c31_28.eq_1) (And.intro (uC Try.prog c31_29.eq_1) (And.intro (uR Try.prog c31_30.eq_1) (And.intro (uC Try.prog c31_31.eq_1) (And.intro (uC Try.prog c31_32.eq_1) (And.intro (uC Try.prog c31_33.eq_1) (And.intro (uC Try.prog c31_34.eq_1) (And.intro (uC Try.prog c31_35.eq_1) (And.intro (uR Try.prog c31_36.eq_1) (And.intro (uC Try.prog c31_37.eq_1) (And.intro (uC Try.prog c31_38.eq_1) (And.intro (uC Try.prog c31_39.eq_1) (And.intro (uC Try.prog c31_40.eq_1) (And.intro (uC Try.prog c31_41.eq_1) (And.intro (uC Try.prog c31_42.eq_1) (And.intro (uC Try.prog c31_43.eq_1) (And.intro (uC Try.prog c31_44.eq_1) (And.intro (uC Try.prog c31_45.eq_1) (And.intro (uC Try.prog c31_46.eq_1) (And.intro (uC Try.prog c31_47.eq_1) (And.intro (uC Try.prog c31_48.eq_1) (And.intro (uR Try.prog c31_49.eq_1) (And.intro (uC Try.prog c31_50.eq_1) (And.intro (uC Try.prog c31_51.eq_1) (And.intro (uC Try.prog c31_52.eq_1) (And.intro (uC Try.prog c31_53.eq_1) (And.intro (uC Try.prog c31_54.eq_1) (And.intro (uR Try.prog c31_55.eq_1) (And.intro (uC Try.prog c31_56.eq_1) (And.intro (uC Try.prog c31_57.eq_1) (And.intro (uC Try.prog c31_58.eq_1) (And.intro (uC Try.prog c31_59.eq_1) (And.intro (uC Try.prog c31_60.eq_1) (And.intro (uC Try.prog c31_61.eq_1) (uC Try.prog c31.eq_1)))))))))))))))))))))))))))))))))))))))))))))))))))))))))))))))
def v31 : List RV := [.t 4, .t 5]
theorem s31 : slimF Try.prog Try.f31 = some (c31.bare, v31) := by kernel_rfl

def PairC (h h' : Heap) (r : Value) (p : List Change × Bool) : Prop := ∃ rv, r = .tuple #[rv, .bool p.2] ∧ Fresh h h' encChange 4 rv p.1
def addOf (k : Clip) : Change := ⟨3, k.src, k.inn, k.len⟩
def turnedStep (a : List Clip) (s : List Change × Int) (c : Change) : List Change × Int :=
  if c.kind = 3 then (s.1 ++ [⟨2, 0, 0, c.len⟩], s.2) else if c.kind = 1 then (s.1 ++ [c], s.2 + c.len) else (s.1 ++ (join (partS s.2 (s.2 + c.len) 0 a)).map addOf, s.2 + c.len)
def turnedL (a : List Clip) (l : List Change) : List Change × Int := l.foldl (turnedStep a) ([], 0)
def turnedF (a : List Clip) (l : List Change) : List Change × Bool := if (applyF a l).2 = true then ((turnedL a l).1, true) else ([], false)
theorem turnedL_take (a : List Clip) (l : List Change) (i : Nat) (hi : i < l.length) : turnedL a (l.take (i + 1)) = turnedStep a (turnedL a (l.take i)) l[i] := by
  rw [List.take_succ_eq_append_getElem hi, turnedL, List.foldl_append]; rfl
theorem turnedL_bound (a : List Clip) (l : List Change) (hl : ∀ c ∈ l, changeOk c) (ha : a.length ≤ 300) : 0 ≤ (turnedL a l).2 ∧ (turnedL a l).2 ≤ 10000000 * l.length ∧ (turnedL a l).1.length ≤ 300 * l.length := by
  have key : ∀ (l : List Change) (s : List Change × Int), (∀ c ∈ l, changeOk c) → s.2 ≤ (l.foldl (turnedStep a) s).2 ∧ (l.foldl (turnedStep a) s).2 ≤ s.2 + 10000000 * l.length ∧ (l.foldl (turnedStep a) s).1.length ≤ s.1.length + 300 * l.length := by
    intro l
    induction l with
    | nil => intro s _; simp
    | cons c l ih =>
      intro s h
      have hc := changeOk_len (h c (by simp))
      have := ih (turnedStep a s c) (fun x hx => h x (by simp [hx]))
      have hp := partS_length s.2 (s.2 + c.len) a 0
      have hj := join_length (partS s.2 (s.2 + c.len) 0 a)
      have st : s.2 ≤ (turnedStep a s c).2 ∧ (turnedStep a s c).2 ≤ s.2 + 10000000 ∧ (turnedStep a s c).1.length ≤ s.1.length + 300 := by
        unfold turnedStep
        split
        · simp; omega
        · split
          · simp; omega
          · simp only [List.length_append, List.length_map]; omega
      simp only [List.foldl_cons, List.length_cons]; omega
  have := key l ([], 0) hl
  simpa [turnedL] using this
theorem applyF_true {a : List Clip} {l : List Change} (h : (applyF a l).2 = true) : trackOk a ∧ changesOk l ∧ (applyL a l).2 = sumLen a := by
  unfold applyF at h
  by_cases q : trackOk a ∧ changesOk l ∧ (applyL a l).2 = sumLen a
  · exact q
  · rw [if_neg q] at h; simp at h
theorem specTurned_ok (h : Heap) (v w : Value) (l : List Clip) (m : List Change) (s : SlT h encClip 3 v l) (sw : SlT h encChange 4 w m) (hl : l.length ≤ 1100000) (hm : m.length ≤ 1100000) :
    ACall Try.prog 31 [v, w] h fun r h' => PairC h h' r (turnedF l m) := by
  refine ACall.of Try.func31 s31 (of_decide_eq_true rfl) ?_
  simp (maxSteps := 4000000) (disch := omega) only [ah, am, Nat.reduceEqDiff, reduceCtorEq, Nat.reduceAdd, Nat.reduceLeDiff, Nat.reduceMul, Nat.reduceLT, if_true, if_false, true_and, and_true, and_self, Nat.reduceBEq, QOp.loads, boxO, bslO, buildO, cutL, fillV, putL, w31, v31]
  refine stepC.of (specApply_ok _ _ _ _ _ s sw hl hm) ?_
  rintro _ H1 ⟨av, rfl, FA⟩
  have e1 := FA.1
  simp (maxSteps := 4000000) (disch := omega) only [ah, am, Nat.reduceEqDiff, reduceCtorEq, Nat.reduceAdd, Nat.reduceLeDiff, Nat.reduceMul, Nat.reduceLT, if_true, if_false, true_and, and_true, and_self, Nat.reduceBEq, QOp.loads, boxO, bslO, buildO, cutL, fillV, putL, w31, v31]
  by_cases hk' : (applyF l m).2 = true
  rotate_left
  · have hk2 : (applyF l m).2 = false := by simpa using hk'
    simp (maxSteps := 4000000) (disch := omega) only [ah, am, Nat.reduceEqDiff, reduceCtorEq, Nat.reduceAdd, Nat.reduceLeDiff, Nat.reduceMul, Nat.reduceLT, if_true, if_false, true_and, and_true, and_self, Nat.reduceBEq, QOp.loads, boxO, bslO, buildO, cutL, fillV, putL, w31, v31, hk2]
    rw [show turnedF l m = ([], false) from if_neg hk']
    exact ⟨_, rfl, (Fresh.new0 _ encChange_len (by omega)).mono e1⟩
  obtain ⟨ht, hc, hs⟩ := applyF_true hk'
  have hlen := ht.1; have hok := ht.2.1; have hmlen := hc.1; have hmok := hc.2
  have hT : turnedF l m = ((turnedL l m).1, true) := if_pos hk'
  rw [hT]
  simp (maxSteps := 4000000) (disch := omega) only [ah, am, Nat.reduceEqDiff, reduceCtorEq, Nat.reduceAdd, Nat.reduceLeDiff, Nat.reduceMul, Nat.reduceLT, if_true, if_false, true_and, and_true, and_self, Nat.reduceBEq, QOp.loads, boxO, bslO, buildO, cutL, fillV, putL, w31, v31, hk']
  refine SW_loop_up (fun i E H => ∃ ov, E = [(0, v), (1, w), (8, ov), (9, .int .i64 (turnedL l (m.take i)).2), (10, .int .i64 i)] ∧ Fresh H1 H encChange 4 ov (turnedL l (m.take i)).1) m.length 0 (by omega)
    ⟨.slice (some ⟨H1.size, 0, none⟩) 0 4, by simp [turnedL], by simpa [turnedL] using Fresh.new0 H1 encChange_len (by omega)⟩ ?_
  rintro i E H hi ⟨ov, rfl, F⟩
  have E0 := e1.trans F.1
  have R := (sw.ext E0).rulesN
  have W : IntKind.i64.wrap ((i : Int) + 1) = ((i + 1 : Nat) : Int) := i64e (by omega) (by omega)
  have B := turnedL_bound l (m.take i) (fun c hc => hmok c (List.mem_of_mem_take hc)) hlen
  have hti : (m.take i).length ≤ 300 := by simp; omega
  simp (maxSteps := 4000000) (disch := omega) only [ah, am, Nat.reduceEqDiff, reduceCtorEq, Nat.reduceAdd, Nat.reduceLeDiff, Nat.reduceMul, Nat.reduceLT, if_true, if_false, true_and, and_true, and_self, Nat.reduceBEq, QOp.loads, boxO, bslO, buildO, cutL, fillV, putL, w31, v31, R]
  refine stepI.split (fun hp => ?_) (fun hp => ?_)
  · have hi' : i < m.length := by omega
    have J := turnedL_take l m i hi'
    have cl := changeOk_len (hmok _ (List.getElem_mem hi'))
    have hk3 : m[i].kind = 3 ∨ m[i].kind = 1 ∨ m[i].kind = 2 := by have := hmok _ (List.getElem_mem hi'); simp only [changeOk] at this; omega
    rw [J]
    generalize turnedL l (m.take i) = st at *
    obtain ⟨out, pos⟩ := st
    simp only at B F ⊢
    have F0 : Fk [] H1 (H.more [encChange m[i]]) encChange 4 ov out [(H.size, encChange m[i])] := (Fk.of F).more [encChange m[i]]
    by_cases h1 : m[i].kind = 1
    · have h1' : decide (m[i].kind = 1) = true := decide_eq_true h1
      have h3 : ¬m[i].kind = 3 := by omega
      have W2 : IntKind.i64.wrap (pos + m[i].len) = pos + m[i].len := i64w (by omega)
      obtain ⟨v2, H3, ea, F3⟩ := (Fk.of (X := []) F).app1 [encChange m[i]] m[i] (bytes := 32) (by omega)
      have X3 := F3.ld (i := H.size) (cs := encChange m[i]) (by simp [boxesAt])
      simp only [boxesAt, List.cons_append, List.append_nil, List.nil_append, List.length_nil, List.length_cons, Nat.zero_add, Nat.add_zero, encChange] at ea X3
      simp (maxSteps := 4000000) (disch := omega) only [ah, am, Nat.reduceEqDiff, reduceCtorEq, Nat.reduceAdd, Nat.reduceLeDiff, Nat.reduceMul, Nat.reduceLT, if_true, if_false, true_and, and_true, and_self, Nat.reduceBEq, QOp.loads, boxO, bslO, buildO, cutL, fillV, putL, w31, v31, R, encChange, h1', ea, W, W2, X3]
      refine ⟨hi', v2, by simp only [turnedStep, if_neg h3, if_pos h1], ?_⟩
      simp only [turnedStep, if_neg h3, if_pos h1]; exact F3.fresh
    have h1' : decide (m[i].kind = 1) = false := decide_eq_false h1
    by_cases h3 : m[i].kind = 3
    · have h3' : decide (m[i].kind = 3) = true := decide_eq_true h3
      obtain ⟨v2, H3, ea, F3⟩ := (Fk.of (X := []) F).app1 [encChange m[i]] ⟨2, 0, 0, m[i].len⟩ (bytes := 32) (by omega)
      simp only [boxesAt, List.cons_append, List.append_nil, List.nil_append, List.length_nil, List.length_cons, Nat.zero_add, Nat.add_zero, encChange] at ea
      simp (maxSteps := 4000000) (disch := omega) only [ah, am, Nat.reduceEqDiff, reduceCtorEq, Nat.reduceAdd, Nat.reduceLeDiff, Nat.reduceMul, Nat.reduceLT, if_true, if_false, true_and, and_true, and_self, Nat.reduceBEq, QOp.loads, boxO, bslO, buildO, cutL, fillV, putL, w31, v31, R, encChange, h1', h3', ea, W]
      refine ⟨hi', v2, by simp only [turnedStep, if_pos h3], ?_⟩
      simp only [turnedStep, if_pos h3]; exact F3.fresh
    have h3' : decide (m[i].kind = 3) = false := decide_eq_false h3
    have h2' : decide (m[i].kind = 2) = true := decide_eq_true (by omega)
    have W2 : IntKind.i64.wrap (pos + m[i].len) = pos + m[i].len := i64w (by omega)
    have pa := l4Part_ok (H.more [encChange m[i]]) v l pos (pos + m[i].len) (s.ext (E0.trans (Ext.more H _))) hlen hok (by omega) (by omega)
    simp only [encChange] at pa
    simp (maxSteps := 4000000) (disch := omega) only [ah, am, Nat.reduceEqDiff, reduceCtorEq, Nat.reduceAdd, Nat.reduceLeDiff, Nat.reduceMul, Nat.reduceLT, if_true, if_false, true_and, and_true, and_self, Nat.reduceBEq, QOp.loads, boxO, bslO, buildO, cutL, fillV, putL, w31, v31, R, encChange, h1', h2', h3', W2]
    refine stepC.of pa ?_
    intro pv H3 F3
    have hpl := partS_length pos (pos + m[i].len) l 0
    simp (maxSteps := 4000000) (disch := omega) only [ah, am, Nat.reduceEqDiff, reduceCtorEq, Nat.reduceAdd, Nat.reduceLeDiff, Nat.reduceMul, Nat.reduceLT, if_true, if_false, true_and, and_true, and_self, Nat.reduceBEq, QOp.loads, boxO, bslO, buildO, cutL, fillV, putL, w31, v31]
    refine stepC.of (l4Join_ok _ _ _ F3.slt (by omega) (fun k hk => (partS_mem _ _ _ _ hok k hk).in)) ?_
    intro jv H4 F4
    have T := Tw.of F0 (F4.mono F3.1)
    have hjl := join_length (partS pos (pos + m[i].len) 0 l)
    have hstep : turnedStep l (out, pos) m[i] = (out ++ (join (partS pos (pos + m[i].len) 0 l)).map addOf, pos + m[i].len) := by simp only [turnedStep, if_neg h3, if_neg h1]
    rw [hstep]
    clear F4 F3 pa hstep
    generalize join (partS pos (pos + m[i].len) 0 l) = jl at *
    simp (maxSteps := 4000000) (disch := omega) only [ah, am, Nat.reduceEqDiff, reduceCtorEq, Nat.reduceAdd, Nat.reduceLeDiff, Nat.reduceMul, Nat.reduceLT, if_true, if_false, true_and, and_true, and_self, Nat.reduceBEq, QOp.loads, boxO, bslO, buildO, cutL, fillV, putL, w31, v31]
    refine SW_loop_up (fun k E K => ∃ ov', E = [(0, v), (1, w), (8, ov'), (9, .int .i64 pos), (10, .int .i64 i), (11, .pointer (some ⟨H.size, 0, none⟩)), (12, jv), (13, .int .i64 k)] ∧
      Tw (H.more [encChange m[i]]).size H4.size H1 K encChange 4 ov' (out ++ (jl.take k).map addOf) [(H.size, encChange m[i])] encClip 3 jv jl) jl.length 0 (by omega)
      ⟨ov, rfl, by simpa using T⟩ ?_
    rintro k E K hk ⟨ov', rfl, TK⟩
    have RJ := TK.mine.slt.rulesN
    have XK := TK.fk.ld (i := H.size) (cs := encChange m[i]) (by simp)
    simp only [encChange] at XK
    have W3 : IntKind.i64.wrap ((k : Int) + 1) = ((k + 1 : Nat) : Int) := i64e (by omega) (by omega)
    simp (maxSteps := 4000000) (disch := omega) only [ah, am, Nat.reduceEqDiff, reduceCtorEq, Nat.reduceAdd, Nat.reduceLeDiff, Nat.reduceMul, Nat.reduceLT, if_true, if_false, true_and, and_true, and_self, Nat.reduceBEq, QOp.loads, boxO, bslO, buildO, cutL, fillV, putL, w31, v31, RJ]
    refine stepI.split (fun hq => ?_) (fun hq => ?_)
    · have hk' : k < jl.length := by omega
      obtain ⟨v2, K2, ea, T2⟩ := TK.app1 [] (addOf jl[k]) (bytes := 32) (by simp only [List.length_append, List.length_map, List.length_take]; omega)
      simp only [List.nil_append, List.length_nil, Nat.add_zero, encChange, addOf] at ea
      simp (maxSteps := 4000000) (disch := omega) only [ah, am, Nat.reduceEqDiff, reduceCtorEq, Nat.reduceAdd, Nat.reduceLeDiff, Nat.reduceMul, Nat.reduceLT, if_true, if_false, true_and, and_true, and_self, Nat.reduceBEq, QOp.loads, boxO, bslO, buildO, cutL, fillV, putL, w31, v31, RJ, encClip, ea, W3]
      refine ⟨hk', v2, rfl, ?_⟩
      rw [List.take_succ_eq_append_getElem hk', List.map_append, ← List.append_assoc]
      simp only [size_more, List.length_cons, List.length_nil, Nat.zero_add] at T2
      exact T2
    · obtain rfl : k = jl.length := by omega
      rw [List.take_length] at TK
      simp (maxSteps := 4000000) (disch := omega) only [ah, am, Nat.reduceEqDiff, reduceCtorEq, Nat.reduceAdd, Nat.reduceLeDiff, Nat.reduceMul, Nat.reduceLT, if_true, if_false, true_and, and_true, and_self, Nat.reduceBEq, QOp.loads, boxO, bslO, buildO, cutL, fillV, putL, w31, v31, RJ, XK, W2, W]
      exact ⟨hi', ov', rfl, TK.fk.fresh⟩
  · simp (maxSteps := 4000000) (disch := omega) only [ah, am, Nat.reduceEqDiff, reduceCtorEq, Nat.reduceAdd, Nat.reduceLeDiff, Nat.reduceMul, Nat.reduceLT, if_true, if_false, true_and, and_true, and_self, Nat.reduceBEq, QOp.loads, boxO, bslO, buildO, cutL, fillV, putL, w31, v31, R, W]
    obtain rfl : i = m.length := by omega
    rw [List.take_length] at F B
    exact ⟨_, rfl, F.mono e1⟩
end Go.Proofs.Ytbnppofkpgfhnaa
