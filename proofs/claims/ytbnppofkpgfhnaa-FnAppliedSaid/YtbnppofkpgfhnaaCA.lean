import Derived.Test.YtbnppofkpgfhnaaH3
import Derived.Test.YtbnppofkpgfhnaaS7
import Derived.Test.YtbnppofkpgfhnaaAhY
import Derived.Test.YtbnppofkpgfhnaaAhZ
import Derived.Test.YtbnppofkpgfhnaaI9
namespace Go.Proofs.Ytbnppofkpgfhnaa
open Go Go.Ah
set_option linter.unusedSimpArgs false
set_option linter.unusedVariables false
set_option maxRecDepth 10000
set_option maxHeartbeats 4000000
/-! Changes, as plain lists -/
def clipOf (c : Change) : Clip := ⟨c.src, c.inn, c.len⟩
def changeOk (c : Change) : Prop := (c.kind = 3 ∧ clipOk (clipOf c)) ∨ ((c.kind = 1 ∨ c.kind = 2) ∧ c.src = 0 ∧ c.inn = 0 ∧ 1 ≤ c.len ∧ c.len ≤ 10000000)
instance (c : Change) : Decidable (changeOk c) := by unfold changeOk; infer_instance
def changesOk (l : List Change) : Prop := l.length ≤ 300 ∧ ∀ c ∈ l, changeOk c
instance (l : List Change) : Decidable (changesOk l) := by unfold changesOk; infer_instance
def applyStep (a : List Clip) (s : List Clip × Int) (c : Change) : List Clip × Int :=
  if c.kind = 3 then (s.1 ++ [clipOf c], s.2) else if c.kind = 1 then (s.1 ++ partS s.2 (s.2 + c.len) 0 a, s.2 + c.len) else (s.1, s.2 + c.len)
def applyL (a : List Clip) (l : List Change) : List Clip × Int := l.foldl (applyStep a) ([], 0)
def applyF (a : List Clip) (l : List Change) : List Clip × Bool := if trackOk a ∧ changesOk l ∧ (applyL a l).2 = sumLen a then editF (applyL a l).1 else ([], false)
theorem applyL_take (a : List Clip) (l : List Change) (i : Nat) (hi : i < l.length) : applyL a (l.take (i + 1)) = applyStep a (applyL a (l.take i)) l[i] := by
  rw [List.take_succ_eq_append_getElem hi, applyL, List.foldl_append]; rfl
theorem changeOk_len {c : Change} (h : changeOk c) : 1 ≤ c.len ∧ c.len ≤ 10000000 := by
  simp only [changeOk, clipOk, clipOf] at h; omega
theorem applyL_bound (a : List Clip) (l : List Change) (hl : ∀ c ∈ l, changeOk c) (ha : a.length ≤ 300) : 0 ≤ (applyL a l).2 ∧ (applyL a l).2 ≤ 10000000 * l.length ∧ (applyL a l).1.length ≤ 300 * l.length := by
  have key : ∀ (l : List Change) (s : List Clip × Int), (∀ c ∈ l, changeOk c) → s.2 ≤ (l.foldl (applyStep a) s).2 ∧ (l.foldl (applyStep a) s).2 ≤ s.2 + 10000000 * l.length ∧ (l.foldl (applyStep a) s).1.length ≤ s.1.length + 300 * l.length := by
    intro l
    induction l with
    | nil => intro s _; simp
    | cons c l ih =>
      intro s h
      have hc := changeOk_len (h c (by simp))
      have := ih (applyStep a s c) (fun x hx => h x (by simp [hx]))
      have hp := partS_length s.2 (s.2 + c.len) a 0
      have st : s.2 ≤ (applyStep a s c).2 ∧ (applyStep a s c).2 ≤ s.2 + 10000000 ∧ (applyStep a s c).1.length ≤ s.1.length + 300 := by
        unfold applyStep
        split
        · simp; omega
        · split
          · simp only [List.length_append]; omega
          · simp only; omega
      simp only [List.foldl_cons, List.length_cons]; omega
  have := key l ([], 0) hl
  simpa [applyL] using this
theorem changes_take {l : List Change} {i : Nat} (hi : i < l.length) (h : ∀ k ∈ l.take i, changeOk k) (hk : changeOk l[i]) : ∀ k ∈ l.take (i + 1), changeOk k := by
  intro k hm
  rw [List.take_succ_eq_append_getElem hi] at hm
  simp only [List.mem_append, List.mem_singleton] at hm
  rcases hm with hm | rfl
  · exact h k hm
  · exact hk
end Go.Proofs.Ytbnppofkpgfhnaa

namespace Go.Proofs.Ytbnppofkpgfhnaa
open Go Go.Ah
set_option linter.unusedSimpArgs false
set_option linter.unusedVariables false
set_option maxRecDepth 10000
set_option maxHeartbeats 4000000
/-! 88 loop.example/g00066/spec.l5Change: parameters 1, live [0], slots [0:x, 1:x] -/
def c88_0 : List SOper := [⟨some 1, .a (.box (.t 0)), none⟩, ⟨some 2, .q (.mv (.c (.bool false))), none⟩]
def c88_1 : List SOper := [⟨some 3, .q (.fa 0 (.t 1)), none⟩, ⟨some 4, .q (.ld (.t 3)), none⟩]
def c88_2 : List SOper := [⟨some 6, .q (.bin .eql (.t 4) (.c (.int .i64 1))), none⟩, ⟨some 5, .q (.mv (.t 6)), none⟩]
def c88_3 : List SOper := [⟨some 7, .q (.bin .eql (.t 4) (.c (.int .i64 2))), none⟩, ⟨some 5, .q (.mv (.t 7)), none⟩]
def c88_4 : SCode := .cond (.t 5) .skip (.region c88_3 [1, 4, 5])
def c88_5 : SCode := .seq (.region c88_2 [1, 4, 5]) c88_4
def c88_6 : List SOper := [⟨some 8, .q (.fa 1 (.t 1)), none⟩, ⟨some 9, .q (.ld (.t 8)), none⟩, ⟨some 10, .q (.bin .eql (.t 9) (.c (.int .i64 0))), none⟩, ⟨some 11, .q (.mv (.t 10)), none⟩, ⟨some 12, .q (.fa 2 (.t 1)), some (11, true)⟩, ⟨some 13, .q (.ld (.t 12)), some (11, true)⟩, ⟨some 14, .q (.bin .eql (.t 13) (.c (.int .i64 0))), some (11, true)⟩, ⟨some 15, .q (.pick (.t 11) (.t 14) (.c (.bool false))), none⟩, ⟨some 16, .q (.mv (.t 15)), none⟩, ⟨some 17, .q (.fa 3 (.t 1)), some (16, true)⟩, ⟨some 18, .q (.ld (.t 17)), some (16, true)⟩, ⟨some 19, .e (.call 82 [(.t 18), (.c (.int .i64 1)), (.c (.int .i64 10000000))]), some (16, true)⟩, ⟨some 20, .q (.pick (.t 16) (.t 19) (.c (.bool false))), none⟩, ⟨some 2, .q (.mv (.t 20)), none⟩]
def c88_7 : SCode := .seq (.region c88_6 [2]) .ret
def c88_8 : List SOper := [⟨some 22, .q (.bin .eql (.t 4) (.c (.int .i64 3))), none⟩, ⟨some 21, .q (.mv (.t 22)), none⟩]
def c88_9 : List SOper := [⟨some 23, .q (.fa 1 (.t 1)), none⟩, ⟨some 24, .q (.ld (.t 23)), none⟩, ⟨some 25, .q (.fa 2 (.t 1)), none⟩, ⟨some 26, .q (.ld (.t 25)), none⟩, ⟨some 27, .q (.fa 3 (.t 1)), none⟩, ⟨some 28, .q (.ld (.t 27)), none⟩, ⟨some 29, .q (.build [(.int .i64 0), (.int .i64 0), (.int .i64 0)] [(0, 1, (.t 24)), (1, 1, (.t 26)), (2, 1, (.t 28))]), none⟩, ⟨some 30, .e (.call 54 [(.t 29)]), none⟩, ⟨some 2, .q (.mv (.t 30)), none⟩]
def c88_10 : SCode := .seq (.region c88_9 [2]) .ret
def c88_11 : SCode := .cond (.t 21) c88_10 .skip
def c88_12 : SCode := .seq (.region c88_8 [1, 21]) c88_11
def c88_13 : SCode := .cond (.t 5) c88_7 c88_12
def c88_14 : SCode := .seq c88_5 c88_13
def c88_15 : SCode := .block 0 c88_14
def c88_16 : SCode := .seq (.region c88_1 [1, 4]) c88_15
def c88_17 : List SOper := [⟨some 2, .q (.mv (.c (.bool false))), none⟩]
def c88_18 : SCode := .seq (.region c88_17 [2]) .ret
def c88_19 : SCode := .seq c88_16 c88_18
def c88_20 : SCode := .seq (.region c88_0 [1]) c88_19
def c88 : SCode := c88_20
theorem w88 : type_of% (And.intro (uR Try.prog c88_0.eq_1) (And.intro (uR Try.prog c88_1.eq_1) (And.intro (uR Try.prog c88_2.eq_1) (And.intro (uR Try.prog c88_3.eq_1) (And.intro (uC Try.prog c88_4.eq_1) (And.intro (uC Try.prog c88_5.eq_1) (And.intro (uR Try.prog c88_6.eq_1) (And.intro (uC Try.prog c88_7.eq_1) (And.intro (uR Try.prog c88_8.eq_1) (And.intro (uR Try.prog c88_9.eq_1) (And.intro (uC Try.prog c88_10.eq_1) (And.intro (uC Try.prog c88_11.eq_1) (And.intro (uC Try.prog c88_12.eq_1) (And.intro (uC Try.prog c88_13.eq_1) (And.intro (uC Try.prog c88_14.eq_1) (And.intro (uC Try.prog c88_15.eq_1) (And.intro (uC Try.prog c88_16.eq_1) (And.intro (uR Try.prog c88_17.eq_1) (And.intro (uC Try.prog c88_18.eq_1) (And.intro (uC Try.prog c88_19.eq_1) (And.intro (uC Try.prog c88_20.eq_1) (uC Try.prog c88.eq_1)))))))))))))))))))))) := (And.intro (uR Try.prog c88_0.eq_1) (And.intro (uR Try.prog c88_1.eq_1) (And.intro (uR Try.prog c88_2.eq_1) (And.intro (uR Try.prog c88_3.eq_1) (And.intro (uC Try.prog c88_4.eq_1) (And.intro (uC Try.prog c88_5.eq_1) (And.intro (uR Try.prog c88_6.eq_1) (And.intro (uC Try.prog c88_7.eq_1) (And.intro (uR Try.prog c88_8.eq_1) (And.intro (uR Try.prog c88_9.eq_1) (And.intro (uC Try.prog c88_10.eq_1) (And.intro (uC Try.prog c88_11.eq_1) (And.intro (uC Try.prog c88_12.eq_1) (And.intro (uC Try.prog c88_13.eq_1) (And.intro (uC Try.prog c88_14.eq_1) (And.intro (uC Try.prog c88_15.eq_1) (And.intro (uC Try.prog c88_16.eq_1) (And.intro (uR Try.prog c88_17.eq_1) (And.intro (uC Try.prog c88_18.eq_1) (And.intro (uC Try.prog c88_19.eq_1) (And.intro (uC Try.prog c88_20.eq_1) (uC Try.prog c88.eq_1))))))))))))))))))))))
def v88 : List RV := [.t 2]
theorem s88 : slimF Try.prog Try.f88 = some (c88.bare, v88) := by kernel_rfl
/-! 61 loop.example/g00066/spec.l5List: parameters 1, live [0], slots [0:list, 1:list, 3:i] -/
def c61_0 : List SOper := [⟨some 2, .q (.mv (.c (.bool false))), none⟩]
def c61_1 : List SOper := [⟨some 4, .q (.mv (.t 0)), none⟩, ⟨some 5, .q (.len (.t 4)), none⟩, ⟨some 6, .q (.bin .gtr (.t 5) (.c (.int .i64 300))), none⟩]
def c61_2 : List SOper := [⟨some 2, .q (.mv (.c (.bool false))), none⟩]
def c61_3 : SCode := .seq (.region c61_2 [2]) .ret
def c61_4 : SCode := .cond (.t 6) c61_3 .skip
def c61_5 : SCode := .seq (.region c61_1 [0, 6]) c61_4
def c61_6 : List SOper := [⟨some 3, .q (.mv (.c (.int .i64 0))), none⟩]
def c61_7 : List SOper := [⟨some 7, .q (.mv (.t 3)), none⟩, ⟨some 8, .q (.mv (.t 0)), none⟩, ⟨some 9, .q (.len (.t 8)), none⟩, ⟨some 10, .q (.bin .lss (.t 7) (.t 9)), none⟩]
def c61_8 : SCode := .cond (.t 10) .skip (.exit 0)
def c61_9 : SCode := .seq (.region c61_7 [0, 3, 10]) c61_8
def c61_10 : List SOper := [⟨some 13, .q (.mv (.t 0)), none⟩, ⟨some 14, .q (.mv (.t 3)), none⟩, ⟨some 15, .q (.ia 4 (.t 13) (.t 14)), none⟩, ⟨some 16, .q (.ldn 4 (.t 15)), none⟩, ⟨some 17, .e (.call 88 [(.t 16)]), none⟩, ⟨some 18, .q (.not (.t 17)), none⟩]
def c61_11 : List SOper := [⟨some 2, .q (.mv (.c (.bool false))), none⟩]
def c61_12 : SCode := .seq (.region c61_11 [2]) .ret
def c61_13 : SCode := .cond (.t 18) c61_12 .skip
def c61_14 : SCode := .seq (.region c61_10 [0, 3, 18]) c61_13
def c61_15 : SCode := .block 1 c61_14
def c61_16 : List SOper := [⟨some 11, .q (.mv (.t 3)), none⟩, ⟨some 12, .q (.bin .add (.t 11) (.c (.int .i64 1))), none⟩, ⟨some 3, .q (.mv (.t 12)), none⟩]
def c61_17 : SCode := .seq c61_15 (.region c61_16 [0, 3])
def c61_18 : SCode := .seq c61_9 c61_17
def c61_19 : SCode := .loop c61_18
def c61_20 : SCode := .block 0 c61_19
def c61_21 : SCode := .seq (.region c61_6 [0, 3]) c61_20
def c61_22 : List SOper := [⟨some 2, .q (.mv (.c (.bool true))), none⟩]
def c61_23 : SCode := .seq (.region c61_22 [2]) .ret
def c61_24 : SCode := .seq c61_21 c61_23
def c61_25 : SCode := .seq c61_5 c61_24
def c61_26 : SCode := .seq (.region c61_0 [0]) c61_25
def c61 : SCode := c61_26
theorem w61 : type_of% (And.intro (uR Try.prog c61_0.eq_1) (And.intro (uR Try.prog c61_1.eq_1) (And.intro (uR Try.prog c61_2.eq_1) (And.intro (uC Try.prog c61_3.eq_1) (And.intro (uC Try.prog c61_4.eq_1) (And.intro (uC Try.prog c61_5.eq_1) (And.intro (uR Try.prog c61_6.eq_1) (And.intro (uR Try.prog c61_7.eq_1) (And.intro (uC Try.prog c61_8.eq_1) (And.intro (uC Try.prog c61_9.eq_1) (And.intro (uR Try.prog c61_10.eq_1) (And.intro (uR Try.prog c61_11.eq_1) (And.intro (uC Try.prog c61_12.eq_1) (And.intro (uC Try.prog c61_13.eq_1) (And.intro (uC Try.prog c61_14.eq_1) (And.intro (uC Try.prog c61_15.eq_1) (And.intro (uR Try.prog c61_16.eq_1) (And.intro (uC Try.prog c61_17.eq_1) (And.intro (uC Try.prog c61_18.eq_1) (And.intro (uC Try.prog c61_19.eq_1) (And.intro (uC Try.prog c61_20.eq_1) (And.intro (uC Try.prog c61_21.eq_1) (And.intro (uR Try.prog c61_22.eq_1) (And.intro (uC Try.prog c61_23.eq_1) (And.intro (uC Try.prog c61_24.eq_1) (And.intro (uC Try.prog c61_25.eq_1) (And.intro (uC Try.prog c61_26.eq_1) (uC Try.prog c61.eq_1)))))))))))))))))))))))))))) := (And.intro (uR Try.prog c61_0.eq_1) (And.intro (uR Try.prog c61_1.eq_1) (And.intro (uR Try.prog c61_2.eq_1) (And.intro (uC Try.prog c61_3.eq_1) (And.intro (uC Try.prog c61_4.eq_1) (And.intro (uC Try.prog c61_5.eq_1) (And.intro (uR Try.prog c61_6.eq_1) (And.intro (uR Try.prog c61_7.eq_1) (And.intro (uC Try.prog c61_8.eq_1) (And.intro (uC Try.prog c61_9.eq_1) (And.intro (uR Try.prog c61_10.eq_1) (And.intro (uR Try.prog c61_11.eq_1) (And.intro (uC Try.prog c61_12.eq_1) (And.intro (uC Try.prog c61_13.eq_1) (And.intro (uC Try.prog c61_14.eq_1) (And.intro (uC Try.prog c61_15.eq_1) (And.intro (uR Try.prog c61_16.eq_1) (And.intro (uC Try.prog c61_17.eq_1) (And.intro (uC Try.prog c61_18.eq_1) (And.intro (uC Try.prog c61_19.eq_1) (And.intro (uC Try.prog c61_20.eq_1) (And.intro (uC Try.prog c61_21.eq_1) (And.intro (uR Try.prog c61_22.eq_1) (And.intro (uC Try.prog c61_23.eq_1) (And.intro (uC Try.prog c61_24.eq_1) (And.intro (uC Try.prog c61_25.eq_1) (And.intro (uC Try.prog c61_26.eq_1) (uC Try.prog c61.eq_1))))))))))))))))))))))))))))
def v61 : List RV := [.t 2]
theorem s61 : slimF Try.prog Try.f61 = some (c61.bare, v61) := by kernel_rfl
/-! 22 loop.example/g00066/spec.Apply: parameters 2, live [0, 1], slots [0:a, 1:list, 2:a, 3:list, 6:out, 7:at, 8:i, 9:x] -/
def c22_0 : List SOper := [⟨some 4, .q (.mv (.c (.slice none 0 0))), none⟩, ⟨some 5, .q (.mv (.c (.bool false))), none⟩]
def c22_1 : List SOper := [⟨some 10, .q (.mv (.t 0)), none⟩, ⟨some 11, .e (.call 12 [(.t 10)]), none⟩, ⟨some 12, .q (.not (.t 11)), none⟩, ⟨some 13, .q (.mv (.t 12)), none⟩, ⟨some 14, .q (.mv (.t 1)), some (13, false)⟩, ⟨some 15, .e (.call 61 [(.t 14)]), some (13, false)⟩, ⟨some 16, .q (.not (.t 15)), some (13, false)⟩, ⟨some 17, .q (.pick (.t 13) (.c (.bool true)) (.t 16)), none⟩]
def c22_2 : List SOper := [⟨some 18, .a (.bsl 0 3 [] []), none⟩, ⟨some 4, .q (.mv (.t 18)), none⟩, ⟨some 5, .q (.mv (.c (.bool false))), none⟩]
def c22_3 : SCode := .seq (.region c22_2 [4, 5]) .ret
def c22_4 : SCode := .cond (.t 17) c22_3 .skip
def c22_5 : SCode := .seq (.region c22_1 [0, 1, 17]) c22_4
def c22_6 : List SOper := [⟨some 19, .a (.bsl 0 3 [] []), none⟩, ⟨some 6, .q (.mv (.t 19)), none⟩]
def c22_7 : List SOper := [⟨some 7, .q (.mv (.c (.int .i64 0))), none⟩]
def c22_8 : List SOper := [⟨some 8, .q (.mv (.c (.int .i64 0))), none⟩]
def c22_9 : List SOper := [⟨some 20, .q (.mv (.t 8)), none⟩, ⟨some 21, .q (.mv (.t 1)), none⟩, ⟨some 22, .q (.len (.t 21)), none⟩, ⟨some 23, .q (.bin .lss (.t 20) (.t 22)), none⟩]
def c22_10 : SCode := .cond (.t 23) .skip (.exit 0)
def c22_11 : SCode := .seq (.region c22_9 [0, 1, 6, 7, 8, 23]) c22_10
def c22_12 : List SOper := [⟨some 26, .q (.mv (.t 1)), none⟩, ⟨some 27, .q (.mv (.t 8)), none⟩, ⟨some 28, .q (.ia 4 (.t 26) (.t 27)), none⟩, ⟨some 29, .q (.ldn 4 (.t 28)), none⟩, ⟨some 9, .a (.new [(.int .i64 0), (.int .i64 0), (.int .i64 0), (.int .i64 0)]), none⟩, ⟨none, .e (.st 4 (.t 9) (.t 29)), none⟩]
def c22_13 : List SOper := [⟨some 30, .q (.fa 0 (.t 9)), none⟩, ⟨some 31, .q (.ld (.t 30)), none⟩, ⟨some 32, .q (.bin .eql (.t 31) (.c (.int .i64 3))), none⟩]
def c22_14 : List SOper := [⟨some 33, .q (.mv (.t 6)), none⟩, ⟨some 34, .q (.fa 1 (.t 9)), none⟩, ⟨some 35, .q (.ld (.t 34)), none⟩, ⟨some 36, .q (.fa 2 (.t 9)), none⟩, ⟨some 37, .q (.ld (.t 36)), none⟩, ⟨some 38, .q (.fa 3 (.t 9)), none⟩, ⟨some 39, .q (.ld (.t 38)), none⟩, ⟨some 40, .q (.build [(.int .i64 0), (.int .i64 0), (.int .i64 0)] [(0, 1, (.t 35)), (1, 1, (.t 37)), (2, 1, (.t 39))]), none⟩, ⟨some 41, .a (.bsl 1 3 [(.int .i64 0), (.int .i64 0), (.int .i64 0)] [(0, 3, (.t 40))]), none⟩, ⟨some 42, .e (.app 24 3 (.t 33) (.t 41)), none⟩, ⟨some 6, .q (.mv (.t 42)), none⟩]
def c22_15 : SCode := .seq (.region c22_14 [0, 1, 6, 7, 8]) (.exit 1)
def c22_16 : SCode := .cond (.t 32) c22_15 .skip
def c22_17 : SCode := .seq (.region c22_13 [0, 1, 6, 7, 8, 9, 32]) c22_16
def c22_18 : List SOper := [⟨some 43, .q (.fa 0 (.t 9)), none⟩, ⟨some 44, .q (.ld (.t 43)), none⟩, ⟨some 45, .q (.bin .eql (.t 44) (.c (.int .i64 1))), none⟩]
def c22_19 : List SOper := [⟨some 46, .q (.mv (.t 6)), none⟩, ⟨some 47, .q (.mv (.t 0)), none⟩, ⟨some 48, .q (.mv (.t 7)), none⟩, ⟨some 49, .q (.mv (.t 7)), none⟩, ⟨some 50, .q (.fa 3 (.t 9)), none⟩, ⟨some 51, .q (.ld (.t 50)), none⟩, ⟨some 52, .q (.bin .add (.t 49) (.t 51)), none⟩, ⟨some 53, .e (.call 53 [(.t 47), (.t 48), (.t 52)]), none⟩, ⟨some 54, .e (.app 24 3 (.t 46) (.t 53)), none⟩, ⟨some 6, .q (.mv (.t 54)), none⟩]
def c22_20 : SCode := .cond (.t 45) (.region c22_19 [0, 1, 6, 7, 8, 9]) .skip
def c22_21 : SCode := .seq (.region c22_18 [0, 1, 6, 7, 8, 9, 45]) c22_20
def c22_22 : List SOper := [⟨some 55, .q (.mv (.t 7)), none⟩, ⟨some 56, .q (.fa 3 (.t 9)), none⟩, ⟨some 57, .q (.ld (.t 56)), none⟩, ⟨some 58, .q (.bin .add (.t 55) (.t 57)), none⟩, ⟨some 7, .q (.mv (.t 58)), none⟩]
def c22_23 : SCode := .seq c22_21 (.region c22_22 [0, 1, 6, 7, 8])
def c22_24 : SCode := .seq c22_17 c22_23
def c22_25 : SCode := .seq (.region c22_12 [0, 1, 6, 7, 8, 9]) c22_24
def c22_26 : SCode := .block 1 c22_25
def c22_27 : List SOper := [⟨some 24, .q (.mv (.t 8)), none⟩, ⟨some 25, .q (.bin .add (.t 24) (.c (.int .i64 1))), none⟩, ⟨some 8, .q (.mv (.t 25)), none⟩]
def c22_28 : SCode := .seq c22_26 (.region c22_27 [0, 1, 6, 7, 8])
def c22_29 : SCode := .seq c22_11 c22_28
def c22_30 : SCode := .loop c22_29
def c22_31 : SCode := .block 0 c22_30
def c22_32 : SCode := .seq (.region c22_8 [0, 1, 6, 7, 8]) c22_31
def c22_33 : List SOper := [⟨some 59, .q (.mv (.t 7)), none⟩, ⟨some 60, .q (.mv (.t 0)), none⟩, ⟨some 61, .e (.call 48 [(.t 60)]), none⟩, ⟨some 62, .q (.bin .neq (.t 59) (.t 61)), none⟩]
def c22_34 : List SOper := [⟨some 63, .a (.bsl 0 3 [] []), none⟩, ⟨some 4, .q (.mv (.t 63)), none⟩, ⟨some 5, .q (.mv (.c (.bool false))), none⟩]
def c22_35 : SCode := .seq (.region c22_34 [4, 5]) .ret
def c22_36 : SCode := .cond (.t 62) c22_35 .skip
def c22_37 : SCode := .seq (.region c22_33 [6, 62]) c22_36
def c22_38 : List SOper := [⟨some 64, .q (.mv (.t 6)), none⟩, ⟨some 65, .e (.call 62 [(.t 64)]), none⟩, ⟨some 66, .q (.ext (.t 65) 0), none⟩, ⟨some 67, .q (.ext (.t 65) 1), none⟩, ⟨some 4, .q (.mv (.t 66)), none⟩, ⟨some 5, .q (.mv (.t 67)), none⟩]
def c22_39 : SCode := .seq (.region c22_38 [4, 5]) .ret
def c22_40 : SCode := .seq c22_37 c22_39
def c22_41 : SCode := .seq c22_32 c22_40
def c22_42 : SCode := .seq (.region c22_7 [0, 1, 6, 7]) c22_41
def c22_43 : SCode := .seq (.region c22_6 [0, 1, 6]) c22_42
def c22_44 : SCode := .seq c22_5 c22_43
def c22_45 : SCode := .seq (.region c22_0 [0, 1]) c22_44
def c22 : SCode := c22_45
theorem w22 : type_of% (And.intro (uR Try.prog c22_0.eq_1) (And.intro (uR Try.prog c22_1.eq_1) (And.intro (uR Try.prog c22_2.eq_1) (And.intro (uC Try.prog c22_3.eq_1) (And.intro (uC Try.prog c22_4.eq_1) (And.intro (uC Try.prog c22_5.eq_1) (And.intro (uR Try.prog c22_6.eq_1) (And.intro (uR Try.prog c22_7.eq_1) (And.intro (uR Try.prog c22_8.eq_1) (And.intro (uR Try.prog c22_9.eq_1) (And.intro (uC Try.prog c22_10.eq_1) (And.intro (uC Try.prog c22_11.eq_1) (And.intro (uR Try.prog c22_12.eq_1) (And.intro (uR Try.prog c22_13.eq_1) (And.intro (uR Try.prog c22_14.eq_1) (And.intro (uC Try.prog c22_15.eq_1) (And.intro (uC Try.prog c22_16.eq_1) (And.intro (uC Try.prog c22_17.eq_1) (And.intro (uR Try.prog c22_18.eq_1) (And.intro (uR Try.prog c22_19.eq_1) (And.intro (uC Try.prog c22_20.eq_1) (And.intro (uC Try.prog c22_21.eq_1) (And.intro (uR Try.prog c22_22.eq_1) (And.intro (uC Try.prog c22_23.eq_1) (And.intro (uC Try.prog c22_24.eq_1) (And.intro (uC Try.prog c22_25.eq_1) (And.intro (uC Try.prog c22_26.eq_1) (And.intro (uR Try.prog c22_27.eq_1) (And.intro (uC Try.prog c22_28.eq_1) (And.intro (uC Try.prog c22_29.eq_1) (And.intro (uC Try.prog c22_30.eq_1) (And.intro (uC Try.prog c22_31.eq_1) (And.intro (uC Try.prog c22_32.eq_1) (And.intro (uR Try.prog c22_33.eq_1) (And.intro (uR Try.prog c22_34.eq_1) (And.intro (uC Try.prog c22_35.eq_1) (And.intro (uC Try.prog c22_36.eq_1) (And.intro (uC Try.prog c22_37.eq_1) (And.intro (uR Try.prog c22_38.eq_1) (And.intro (uC Try.prog c22_39.eq_1) (And.intro (uC Try.prog c22_40.eq_1) (And.intro (uC Try.prog c22_41.eq_1) (And.intro (uC Try.prog c22_42.eq_1) (And.intro (uC Try.prog c22_43.eq_1) (And.intro (uC Try.prog c22_44.eq_1) (And.intro (uC Try.prog c22_45.eq_1) (uC Try.prog c22.eq_1))))))))))))))))))))))))))))))))))))))))))))))) := (And.intro (uR Try.prog c22_0.eq_1) (And.intro (uR Try.prog c22_1.eq_1) (And.intro (uR Try.prog c22_2.eq_1) (And.intro (uC Try.prog c22_3.eq_1) (And.intro (uC Try.prog c22_4.eq_1) (And.intro (uC Try.prog c22_5.eq_1) (And.intro (uR Try.prog c22_6.eq_1) (And.intro (uR Try.prog c22_7.eq_1) (And.intro (uR Try.prog c22_8.eq_1) (And.intro (uR Try.prog c22_9.eq_1) (And.intro (uC Try.prog c22_10.eq_1) (And.intro (uC Try.prog c22_11.eq_1) (And.intro (uR Try.prog c22_12.eq_1) (And.intro (uR Try.prog c22_13.eq_1) (And.intro (uR Try.prog c22_14.eq_1) (And.intro (uC Try.prog c22_15.eq_1) (And.intro (uC Try.prog c22_16.eq_1) (And.intro (uC Try.prog c22_17.eq_1) (And.intro (uR Try.prog c22_18.eq_1) (And.intro (uR Try.prog c22_19.eq_1) (And.intro (uC Try.prog c22_20.eq_1) (And.intro (uC Try.prog c22_21.eq_1) (And.intro (uR Try.prog c22_22.eq_1) (And.intro (uC Try.prog c22_23.eq_1) (And.intro (uC Try.prog c22_24.eq_1) (And.intro (uC Try.prog c22_25.eq_1) (And.intro (uC Try.prog c22_26.eq_1) (And.intro (uR Try.prog c22_27.eq_1) (And.intro (uC Try.prog c22_28.eq_1) (And.intro (uC Try.prog c22_29.eq_1) (And.intro (uC Try.prog c22_30.eq_1) (And.intro (uC Try.prog c22_31.eq_1) (And.intro (uC Try.prog c22_32.eq_1) (And.intro (uR Try.prog c22_33.eq_1) (And.intro (uR Try.prog c22_34.eq_1) (And.intro (uC Try.prog c22_35.eq_1) (And.intro (uC Try.prog c22_36.eq_1) (And.intro (uC Try.prog c22_37.eq_1) (And.intro (uR Try.prog c22_38.eq_1) (And.intro (uC Try.prog c22_39.eq_1) (And.intro (uC Try.prog c22_40.eq_1) (And.intro (uC Try.prog c22_41.eq_1) (And.intro (uC Try.prog c22_42.eq_1) (And.intro (uC Try.prog c22_43.eq_1) (And.intro (uC Try.prog c22_44.eq_1) (And.intro (uC Try.prog c22_45.eq_1) (uC Try.prog c22.eq_1)))))))))))))))))))))))))))))))))))))))))))))))
def v22 : List RV := [.t 4, .t 5]
theorem s22 : slimF Try.prog Try.f22 = some (c22.bare, v22) := by kernel_rfl

theorem l5Change_ok (h : Heap) (c : Change) : ACall Try.prog 88 [.agg (encChange c).toArray] h fun r h' => Ext h h' ∧ r = .bool (decide (changeOk c)) := by
  obtain ⟨a, b, d, e⟩ := c
  refine ACall.of Try.func88 s88 (of_decide_eq_true rfl) ?_
  by_cases k1 : a = 1
  · subst k1
    simp (maxSteps := 4000000) (disch := omega) only [ah, am, Nat.reduceEqDiff, reduceCtorEq, Nat.reduceAdd, Nat.reduceLeDiff, Nat.reduceMul, Nat.reduceLT, if_true, if_false, true_and, and_true, and_self, Nat.reduceBEq, QOp.loads, boxO, bslO, buildO, cutL, fillV, putL, w88, v88, encChange]
    (repeat' first
    | (refine stepC.of (l1In_ok _ _ _ _) ?_; rintro _ _ ⟨rfl, rfl⟩; simp (maxSteps := 4000000) (disch := omega) only [ah, am, Nat.reduceEqDiff, reduceCtorEq, Nat.reduceAdd, Nat.reduceLeDiff, Nat.reduceMul, Nat.reduceLT, if_true, if_false, true_and, and_true, and_self, Nat.reduceBEq, QOp.loads, boxO, bslO, buildO, cutL, fillV, putL, i64w, w88, v88])
    | (refine stepG.cases (fun _ hp => ?_) (fun _ hp => ?_) <;> simp (maxSteps := 4000000) (disch := omega) only [hp, ah, am, Nat.reduceEqDiff, reduceCtorEq, Nat.reduceAdd, Nat.reduceLeDiff, Nat.reduceMul, Nat.reduceLT, if_true, if_false, true_and, and_true, and_self, Nat.reduceBEq, QOp.loads, boxO, bslO, buildO, cutL, fillV, putL, i64w, w88, v88])
    | (refine stepI.cases (fun _ hp => ?_) (fun _ hp => ?_) <;> simp (maxSteps := 4000000) (disch := omega) only [hp, ah, am, Nat.reduceEqDiff, reduceCtorEq, Nat.reduceAdd, Nat.reduceLeDiff, Nat.reduceMul, Nat.reduceLT, if_true, if_false, true_and, and_true, and_self, Nat.reduceBEq, QOp.loads, boxO, bslO, buildO, cutL, fillV, putL, i64w, w88, v88]))
    all_goals (refine ⟨Ext.more _ _, ?_⟩; refine bool_dec ?_; try simp only [decide_eq_true_eq, Bool.false_eq_true, false_and, and_false, true_and, and_true, false_iff, iff_false, true_iff, iff_true, not_false_eq_true, false_or, or_false, true_or, or_true, changeOk, clipOf]; first | done | omega | (refine Iff.intro (fun hq => ?_) (fun hq => ?_) <;> omega))
  have k1' : decide (a = 1) = false := decide_eq_false k1
  by_cases k2 : a = 2
  · subst k2
    simp (maxSteps := 4000000) (disch := omega) only [ah, am, Nat.reduceEqDiff, reduceCtorEq, Nat.reduceAdd, Nat.reduceLeDiff, Nat.reduceMul, Nat.reduceLT, if_true, if_false, true_and, and_true, and_self, Nat.reduceBEq, QOp.loads, boxO, bslO, buildO, cutL, fillV, putL, w88, v88, encChange, k1']
    (repeat' first
    | (refine stepC.of (l1In_ok _ _ _ _) ?_; rintro _ _ ⟨rfl, rfl⟩; simp (maxSteps := 4000000) (disch := omega) only [ah, am, Nat.reduceEqDiff, reduceCtorEq, Nat.reduceAdd, Nat.reduceLeDiff, Nat.reduceMul, Nat.reduceLT, if_true, if_false, true_and, and_true, and_self, Nat.reduceBEq, QOp.loads, boxO, bslO, buildO, cutL, fillV, putL, i64w, w88, v88, k1'])
    | (refine stepG.cases (fun _ hp => ?_) (fun _ hp => ?_) <;> simp (maxSteps := 4000000) (disch := omega) only [hp, ah, am, Nat.reduceEqDiff, reduceCtorEq, Nat.reduceAdd, Nat.reduceLeDiff, Nat.reduceMul, Nat.reduceLT, if_true, if_false, true_and, and_true, and_self, Nat.reduceBEq, QOp.loads, boxO, bslO, buildO, cutL, fillV, putL, i64w, w88, v88, k1'])
    | (refine stepI.cases (fun _ hp => ?_) (fun _ hp => ?_) <;> simp (maxSteps := 4000000) (disch := omega) only [hp, ah, am, Nat.reduceEqDiff, reduceCtorEq, Nat.reduceAdd, Nat.reduceLeDiff, Nat.reduceMul, Nat.reduceLT, if_true, if_false, true_and, and_true, and_self, Nat.reduceBEq, QOp.loads, boxO, bslO, buildO, cutL, fillV, putL, i64w, w88, v88, k1']))
    all_goals (refine ⟨Ext.more _ _, ?_⟩; refine bool_dec ?_; try simp only [decide_eq_true_eq, Bool.false_eq_true, false_and, and_false, true_and, and_true, false_iff, iff_false, true_iff, iff_true, not_false_eq_true, false_or, or_false, true_or, or_true, changeOk, clipOf]; first | done | omega | (refine Iff.intro (fun hq => ?_) (fun hq => ?_) <;> omega))
  have k2' : decide (a = 2) = false := decide_eq_false k2
  by_cases k3 : a = 3
  · subst k3
    have lc := l4Clip_ok (h.more [[.int .i64 3, .int .i64 b, .int .i64 d, .int .i64 e]]) ⟨b, d, e⟩
    simp only [encClip] at lc
    simp (maxSteps := 4000000) (disch := omega) only [ah, am, Nat.reduceEqDiff, reduceCtorEq, Nat.reduceAdd, Nat.reduceLeDiff, Nat.reduceMul, Nat.reduceLT, if_true, if_false, true_and, and_true, and_self, Nat.reduceBEq, QOp.loads, boxO, bslO, buildO, cutL, fillV, putL, w88, v88, encChange, k1', k2']
    refine stepC.of lc ?_
    rintro _ H1 ⟨e1, rfl⟩
    simp (maxSteps := 4000000) (disch := omega) only [ah, am, Nat.reduceEqDiff, reduceCtorEq, Nat.reduceAdd, Nat.reduceLeDiff, Nat.reduceMul, Nat.reduceLT, if_true, if_false, true_and, and_true, and_self, Nat.reduceBEq, QOp.loads, boxO, bslO, buildO, cutL, fillV, putL, w88, v88]
    refine ⟨(Ext.more _ _).trans e1, ?_⟩
    refine bool_dec ?_
    simp only [decide_eq_true_eq, changeOk, clipOf]
    exact ⟨fun q => .inl ⟨trivial, q⟩, fun q => by rcases q with q | q; exact q.2; omega⟩
  have k3' : decide (a = 3) = false := decide_eq_false k3
  simp (maxSteps := 4000000) (disch := omega) only [ah, am, Nat.reduceEqDiff, reduceCtorEq, Nat.reduceAdd, Nat.reduceLeDiff, Nat.reduceMul, Nat.reduceLT, if_true, if_false, true_and, and_true, and_self, Nat.reduceBEq, QOp.loads, boxO, bslO, buildO, cutL, fillV, putL, w88, v88, encChange, k1', k2', k3']
  refine ⟨Ext.more _ _, ?_⟩
  rw [decide_eq_false (by simp only [changeOk]; omega)]
theorem l5List_ok (h : Heap) (v : Value) (l : List Change) (s : SlT h encChange 4 v l) (hl : l.length ≤ 281474976710656) : ACall Try.prog 61 [v] h fun r h' => Ext h h' ∧ r = .bool (decide (changesOk l)) := by
  refine ACall.of Try.func61 s61 (of_decide_eq_true rfl) ?_
  have R := s.rulesN
  by_cases h1 : 300 < l.length
  · have h1' : decide (300 < (l.length : Int)) = true := decide_eq_true (by omega)
    simp (maxSteps := 4000000) (disch := omega) only [ah, am, Nat.reduceEqDiff, reduceCtorEq, Nat.reduceAdd, Nat.reduceLeDiff, Nat.reduceMul, Nat.reduceLT, if_true, if_false, true_and, and_true, and_self, Nat.reduceBEq, QOp.loads, boxO, bslO, buildO, cutL, fillV, putL, w61, v61, R, h1']
    rw [show decide (changesOk l) = false from decide_eq_false fun q => by have := q.1; omega]
    exact ⟨Ext.refl h, rfl⟩
  have h1' : decide (300 < (l.length : Int)) = false := decide_eq_false (by omega)
  simp (maxSteps := 4000000) (disch := omega) only [ah, am, Nat.reduceEqDiff, reduceCtorEq, Nat.reduceAdd, Nat.reduceLeDiff, Nat.reduceMul, Nat.reduceLT, if_true, if_false, true_and, and_true, and_self, Nat.reduceBEq, QOp.loads, boxO, bslO, buildO, cutL, fillV, putL, w61, v61, R, h1']
  refine SW_loop_up (fun i E H => E = [(0, v), (3, .int .i64 i)] ∧ Ext h H ∧ ∀ c ∈ l.take i, changeOk c) l.length 0 (by omega) ⟨rfl, Ext.refl h, by simp⟩ ?_
  rintro i E H hi ⟨rfl, e, F⟩
  have R := (s.ext e).rulesN
  have W : IntKind.i64.wrap ((i : Int) + 1) = ((i + 1 : Nat) : Int) := i64e (by omega) (by omega)
  simp (maxSteps := 4000000) (disch := omega) only [ah, am, Nat.reduceEqDiff, reduceCtorEq, Nat.reduceAdd, Nat.reduceLeDiff, Nat.reduceMul, Nat.reduceLT, if_true, if_false, true_and, and_true, and_self, Nat.reduceBEq, QOp.loads, boxO, bslO, buildO, cutL, fillV, putL, w61, v61, R]
  refine stepI.split (fun hp => ?_) (fun hp => ?_)
  · have hi' : i < l.length := by omega
    simp (maxSteps := 4000000) (disch := omega) only [ah, am, Nat.reduceEqDiff, reduceCtorEq, Nat.reduceAdd, Nat.reduceLeDiff, Nat.reduceMul, Nat.reduceLT, if_true, if_false, true_and, and_true, and_self, Nat.reduceBEq, QOp.loads, boxO, bslO, buildO, cutL, fillV, putL, w61, v61, R]
    refine stepC.of (l5Change_ok _ _) ?_
    rintro _ H1 ⟨e1, rfl⟩
    simp (maxSteps := 4000000) (disch := omega) only [ah, am, Nat.reduceEqDiff, reduceCtorEq, Nat.reduceAdd, Nat.reduceLeDiff, Nat.reduceMul, Nat.reduceLT, if_true, if_false, true_and, and_true, and_self, Nat.reduceBEq, QOp.loads, boxO, bslO, buildO, cutL, fillV, putL, w61, v61]
    refine stepI.split (fun hk => ?_) (fun hk => ?_)
    · simp (maxSteps := 4000000) (disch := omega) only [ah, am, Nat.reduceEqDiff, reduceCtorEq, Nat.reduceAdd, Nat.reduceLeDiff, Nat.reduceMul, Nat.reduceLT, if_true, if_false, true_and, and_true, and_self, Nat.reduceBEq, QOp.loads, boxO, bslO, buildO, cutL, fillV, putL, w61, v61, W]
      exact ⟨hi', e.trans e1, changes_take hi' F hk⟩
    · simp (maxSteps := 4000000) (disch := omega) only [ah, am, Nat.reduceEqDiff, reduceCtorEq, Nat.reduceAdd, Nat.reduceLeDiff, Nat.reduceMul, Nat.reduceLT, if_true, if_false, true_and, and_true, and_self, Nat.reduceBEq, QOp.loads, boxO, bslO, buildO, cutL, fillV, putL, w61, v61]
      refine ⟨e.trans e1, ?_⟩
      rw [decide_eq_false fun q => hk (q.2 _ (List.getElem_mem hi'))]
  · simp (maxSteps := 4000000) (disch := omega) only [ah, am, Nat.reduceEqDiff, reduceCtorEq, Nat.reduceAdd, Nat.reduceLeDiff, Nat.reduceMul, Nat.reduceLT, if_true, if_false, true_and, and_true, and_self, Nat.reduceBEq, QOp.loads, boxO, bslO, buildO, cutL, fillV, putL, w61, v61, R, W]
    obtain rfl : i = l.length := by omega
    rw [List.take_length] at F
    have hcs : changesOk l := ⟨by omega, F⟩
    exact ⟨e, by rw [decide_eq_true hcs]⟩
theorem specApply_ok (h : Heap) (v w : Value) (l : List Clip) (m : List Change) (s : SlT h encClip 3 v l) (sw : SlT h encChange 4 w m) (hl : l.length ≤ 1100000) (hm : m.length ≤ 1100000) :
    ACall Try.prog 22 [v, w] h fun r h' => Pair h h' r (applyF l m) := by
  refine ACall.of Try.func22 s22 (of_decide_eq_true rfl) ?_
  simp (maxSteps := 4000000) (disch := omega) only [ah, am, Nat.reduceEqDiff, reduceCtorEq, Nat.reduceAdd, Nat.reduceLeDiff, Nat.reduceMul, Nat.reduceLT, if_true, if_false, true_and, and_true, and_self, Nat.reduceBEq, QOp.loads, boxO, bslO, buildO, cutL, fillV, putL, w22, v22]
  refine stepC.of (TrackOk_ok _ _ _ s (by omega)) ?_
  rintro _ H1 ⟨e1, rfl⟩
  by_cases ht : trackOk l
  rotate_left
  · have ht' : decide (trackOk l) = false := decide_eq_false ht
    simp (maxSteps := 4000000) (disch := omega) only [ah, am, Nat.reduceEqDiff, reduceCtorEq, Nat.reduceAdd, Nat.reduceLeDiff, Nat.reduceMul, Nat.reduceLT, if_true, if_false, true_and, and_true, and_self, Nat.reduceBEq, QOp.loads, boxO, bslO, buildO, cutL, fillV, putL, w22, v22, ht']
    rw [show applyF l m = ([], false) from if_neg fun q => ht q.1]
    exact ⟨_, rfl, (Fresh.new0 _ encClip_len (by omega)).mono e1⟩
  have ht' : decide (trackOk l) = true := decide_eq_true ht
  simp (maxSteps := 4000000) (disch := omega) only [ah, am, Nat.reduceEqDiff, reduceCtorEq, Nat.reduceAdd, Nat.reduceLeDiff, Nat.reduceMul, Nat.reduceLT, if_true, if_false, true_and, and_true, and_self, Nat.reduceBEq, QOp.loads, boxO, bslO, buildO, cutL, fillV, putL, w22, v22, ht']
  refine stepC.of (l5List_ok _ _ _ (sw.ext e1) (by omega)) ?_
  rintro _ H2 ⟨e2, rfl⟩
  by_cases hc : changesOk m
  rotate_left
  · have hc' : decide (changesOk m) = false := decide_eq_false hc
    simp (maxSteps := 4000000) (disch := omega) only [ah, am, Nat.reduceEqDiff, reduceCtorEq, Nat.reduceAdd, Nat.reduceLeDiff, Nat.reduceMul, Nat.reduceLT, if_true, if_false, true_and, and_true, and_self, Nat.reduceBEq, QOp.loads, boxO, bslO, buildO, cutL, fillV, putL, w22, v22, ht', hc']
    rw [show applyF l m = ([], false) from if_neg fun q => hc q.2.1]
    exact ⟨_, rfl, (Fresh.new0 _ encClip_len (by omega)).mono (e1.trans e2)⟩
  have hc' : decide (changesOk m) = true := decide_eq_true hc
  have hlen := ht.1; have hok := ht.2.1; have hmlen := hc.1; have hmok := hc.2
  simp (maxSteps := 4000000) (disch := omega) only [ah, am, Nat.reduceEqDiff, reduceCtorEq, Nat.reduceAdd, Nat.reduceLeDiff, Nat.reduceMul, Nat.reduceLT, if_true, if_false, true_and, and_true, and_self, Nat.reduceBEq, QOp.loads, boxO, bslO, buildO, cutL, fillV, putL, w22, v22, ht', hc']
  refine SW_loop_up (fun i E H => ∃ ov, E = [(0, v), (1, w), (6, ov), (7, .int .i64 (applyL l (m.take i)).2), (8, .int .i64 i)] ∧ Fresh H2 H encClip 3 ov (applyL l (m.take i)).1) m.length 0 (by omega)
    ⟨.slice (some ⟨H2.size, 0, none⟩) 0 3, by simp [applyL], by simpa [applyL] using Fresh.new0 H2 encClip_len (by omega)⟩ ?_
  rintro i E H hi ⟨ov, rfl, F⟩
  have E0 := (e1.trans e2).trans F.1
  have R := (sw.ext E0).rulesN
  have W : IntKind.i64.wrap ((i : Int) + 1) = ((i + 1 : Nat) : Int) := i64e (by omega) (by omega)
  have B := applyL_bound l (m.take i) (fun c hc => hmok c (List.mem_of_mem_take hc)) hlen
  have hti : (m.take i).length ≤ 300 := by simp; omega
  simp (maxSteps := 4000000) (disch := omega) only [ah, am, Nat.reduceEqDiff, reduceCtorEq, Nat.reduceAdd, Nat.reduceLeDiff, Nat.reduceMul, Nat.reduceLT, if_true, if_false, true_and, and_true, and_self, Nat.reduceBEq, QOp.loads, boxO, bslO, buildO, cutL, fillV, putL, w22, v22, R]
  refine stepI.split (fun hp => ?_) (fun hp => ?_)
  · have hi' : i < m.length := by omega
    have J := applyL_take l m i hi'
    have cl := changeOk_len (hmok _ (List.getElem_mem hi'))
    have hk3 : m[i].kind = 3 ∨ m[i].kind = 1 ∨ m[i].kind = 2 := by have := hmok _ (List.getElem_mem hi'); simp only [changeOk] at this; omega
    rw [J]
    generalize applyL l (m.take i) = st at *
    obtain ⟨out, pos⟩ := st
    simp only at B F ⊢
    have F0 : Fk [] H2 (H.more [encChange m[i]]) encClip 3 ov out [(H.size, encChange m[i])] := (Fk.of F).more [encChange m[i]]
    by_cases h3 : m[i].kind = 3
    · have h3' : decide (m[i].kind = 3) = true := decide_eq_true h3
      obtain ⟨v2, H3, ea, F3⟩ := (Fk.of (X := []) F).app1 [encChange m[i]] (clipOf m[i]) (bytes := 24) (by omega)
      simp only [boxesAt, List.cons_append, List.append_nil, List.nil_append, List.length_nil, List.length_cons, Nat.zero_add, Nat.add_zero, encClip, clipOf, encChange] at ea
      simp (maxSteps := 4000000) (disch := omega) only [ah, am, Nat.reduceEqDiff, reduceCtorEq, Nat.reduceAdd, Nat.reduceLeDiff, Nat.reduceMul, Nat.reduceLT, if_true, if_false, true_and, and_true, and_self, Nat.reduceBEq, QOp.loads, boxO, bslO, buildO, cutL, fillV, putL, w22, v22, R, encChange, h3', ea, W]
      refine ⟨hi', v2, by simp only [applyStep, if_pos h3], ?_⟩
      simp only [applyStep, if_pos h3]; exact F3.fresh
    · have h3' : decide (m[i].kind = 3) = false := decide_eq_false h3
      have W2 : IntKind.i64.wrap (pos + m[i].len) = pos + m[i].len := i64w (by omega)
      by_cases h1 : m[i].kind = 1
      · have h1' : decide (m[i].kind = 1) = true := decide_eq_true h1
        have pa := l4Part_ok (H.more [encChange m[i]]) v l pos (pos + m[i].len) (s.ext (E0.trans (Ext.more H _))) hlen hok (by omega) (by omega)
        simp only [encChange] at pa
        simp (maxSteps := 4000000) (disch := omega) only [ah, am, Nat.reduceEqDiff, reduceCtorEq, Nat.reduceAdd, Nat.reduceLeDiff, Nat.reduceMul, Nat.reduceLT, if_true, if_false, true_and, and_true, and_self, Nat.reduceBEq, QOp.loads, boxO, bslO, buildO, cutL, fillV, putL, w22, v22, R, encChange, h3', h1', W2]
        refine stepC.of pa ?_
        intro pv H3 F3
        have F4 := F0.step F3.1
        have X4 := F4.ld (i := H.size) (cs := encChange m[i]) (by simp)
        have pl := partS_length pos (pos + m[i].len) l 0
        obtain ⟨v2, H5, ea, F5⟩ := F4.app F3.slt (bytes := 24) (by omega)
        have X5 := F5.ld (i := H.size) (cs := encChange m[i]) (by simp)
        simp only [encChange] at X4 X5
        simp (maxSteps := 4000000) (disch := omega) only [ah, am, Nat.reduceEqDiff, reduceCtorEq, Nat.reduceAdd, Nat.reduceLeDiff, Nat.reduceMul, Nat.reduceLT, if_true, if_false, true_and, and_true, and_self, Nat.reduceBEq, QOp.loads, boxO, bslO, buildO, cutL, fillV, putL, w22, v22, X4, X5, ea, W, W2]
        refine ⟨hi', v2, by simp only [applyStep, if_neg h3, if_pos h1], ?_⟩
        simp only [applyStep, if_neg h3, if_pos h1]; exact F5.fresh
      · have h1' : decide (m[i].kind = 1) = false := decide_eq_false h1
        simp (maxSteps := 4000000) (disch := omega) only [ah, am, Nat.reduceEqDiff, reduceCtorEq, Nat.reduceAdd, Nat.reduceLeDiff, Nat.reduceMul, Nat.reduceLT, if_true, if_false, true_and, and_true, and_self, Nat.reduceBEq, QOp.loads, boxO, bslO, buildO, cutL, fillV, putL, w22, v22, R, encChange, h3', h1', W, W2]
        refine ⟨hi', ov, by simp only [applyStep, if_neg h3, if_neg h1], ?_⟩
        simp only [applyStep, if_neg h3, if_neg h1]; exact F0.fresh
  · simp (maxSteps := 4000000) (disch := omega) only [ah, am, Nat.reduceEqDiff, reduceCtorEq, Nat.reduceAdd, Nat.reduceLeDiff, Nat.reduceMul, Nat.reduceLT, if_true, if_false, true_and, and_true, and_self, Nat.reduceBEq, QOp.loads, boxO, bslO, buildO, cutL, fillV, putL, w22, v22, R, W]
    obtain rfl : i = m.length := by omega
    rw [List.take_length] at F B ⊢
    refine stepC.of (l4Length_ok _ _ _ (s.ext E0) hlen hok) ?_
    rintro _ Hx ⟨hx, rfl⟩; rw [hx]; clear hx Hx
    by_cases hs : (applyL l m).2 = sumLen l
    · have hs' : decide ((applyL l m).2 = sumLen l) = true := decide_eq_true hs
      simp (maxSteps := 4000000) (disch := omega) only [ah, am, Nat.reduceEqDiff, reduceCtorEq, Nat.reduceAdd, Nat.reduceLeDiff, Nat.reduceMul, Nat.reduceLT, if_true, if_false, true_and, and_true, and_self, Nat.reduceBEq, QOp.loads, boxO, bslO, buildO, cutL, fillV, putL, w22, v22, hs']
      refine stepC.of (l4Edit_ok _ _ _ F.slt (by omega)) ?_
      rintro _ H4 ⟨rv, rfl, F4⟩
      simp (maxSteps := 4000000) (disch := omega) only [ah, am, Nat.reduceEqDiff, reduceCtorEq, Nat.reduceAdd, Nat.reduceLeDiff, Nat.reduceMul, Nat.reduceLT, if_true, if_false, true_and, and_true, and_self, Nat.reduceBEq, QOp.loads, boxO, bslO, buildO, cutL, fillV, putL, w22, v22]
      rw [show applyF l m = editF (applyL l m).1 from if_pos ⟨ht, hc, hs⟩]
      exact ⟨rv, rfl, F4.mono E0⟩
    · have hs' : decide ((applyL l m).2 = sumLen l) = false := decide_eq_false hs
      simp (maxSteps := 4000000) (disch := omega) only [ah, am, Nat.reduceEqDiff, reduceCtorEq, Nat.reduceAdd, Nat.reduceLeDiff, Nat.reduceMul, Nat.reduceLT, if_true, if_false, true_and, and_true, and_self, Nat.reduceBEq, QOp.loads, boxO, bslO, buildO, cutL, fillV, putL, w22, v22, hs']
      rw [show applyF l m = ([], false) from if_neg fun q => hs q.2.2]
      exact ⟨_, rfl, (Fresh.new0 _ encClip_len (by omega)).mono E0⟩
end Go.Proofs.Ytbnppofkpgfhnaa

namespace Go.Proofs.Ytbnppofkpgfhnaa
open Go Go.Ah
set_option linter.unusedSimpArgs false
set_option linter.unusedVariables false
set_option maxRecDepth 10000
set_option maxHeartbeats 4000000
/-! 31 loop.example/g00066/spec.Turned: parameters 2, live [0, 1], slots [0:a, 1:list, 2:a, 3:list, 6:_, 7:is, 8:out, 9:at, 10:i, 11:x, 12:in, 13:k] -/
def c31_0 : List SOper := [⟨some 4, .q (.mv (.c (.slice none 0 0))), none⟩, ⟨some 5, .q (.mv (.c (.bool false))), none⟩]
def c31_1 : List SOper := [⟨some 15, .q (.mv (.t 0)), none⟩, ⟨some 16, .q (.mv (.t 1)), none⟩, ⟨some 17, .e (.call 22 [(.t 15), (.t 16)]), none⟩, ⟨some 14, .q (.mv (.t 17)), none⟩, ⟨some 18, .q (.ext (.t 14) 0), none⟩, ⟨some 19, .q (.ext (.t 14) 1), none⟩, ⟨some 6, .q (.mv (.t 18)), none⟩, ⟨some 7, .q (.mv (.t 19)), none⟩]
def c31_2 : List SOper := [⟨some 20, .q (.mv (.t 7)), none⟩, ⟨some 21, .q (.not (.t 20)), none⟩]
def c31_3 : List SOper := [⟨some 22, .a (.bsl 0 4 [] []), none⟩, ⟨some 4, .q (.mv (.t 22)), none⟩, ⟨some 5, .q (.mv (.c (.bool false))), none⟩]
def c31_4 : SCode := .seq (.region c31_3 [4, 5]) .ret
def c31_5 : SCode := .cond (.t 21) c31_4 .skip
def c31_6 : SCode := .seq (.region c31_2 [0, 1, 21]) c31_5
def c31_7 : SCode := .seq (.region c31_1 [0, 1, 7]) c31_6
def c31_8 : List SOper := [⟨some 23, .a (.bsl 0 4 [] []), none⟩, ⟨some 8, .q (.mv (.t 23)), none⟩]
def c31_9 : List SOper := [⟨some 9, .q (.mv (.c (.int .i64 0))), none⟩]
def c31_10 : List SOper := [⟨some 10, .q (.mv (.c (.int .i64 0))), none⟩]
def c31_11 : List SOper := [⟨some 24, .q (.mv (.t 10)), none⟩, ⟨some 25, .q (.mv (.t 1)), none⟩, ⟨some 26, .q (.len (.t 25)), none⟩, ⟨some 27, .q (.bin .lss (.t 24) (.t 26)), none⟩]
def c31_12 : SCode := .cond (.t 27) .skip (.exit 0)
def c31_13 : SCode := .seq (.region c31_11 [0, 1, 8, 9, 10, 27]) c31_12
def c31_14 : List SOper := [⟨some 30, .q (.mv (.t 1)), none⟩, ⟨some 31, .q (.mv (.t 10)), none⟩, ⟨some 32, .q (.ia 4 (.t 30) (.t 31)), none⟩, ⟨some 33, .q (.ldn 4 (.t 32)), none⟩, ⟨some 11, .a (.new [(.int .i64 0), (.int .i64 0), (.int .i64 0), (.int .i64 0)]), none⟩, ⟨none, .e (.st 4 (.t 11) (.t 33)), none⟩]
def c31_15 : List SOper := [⟨some 34, .q (.fa 0 (.t 11)), none⟩, ⟨some 35, .q (.ld (.t 34)), none⟩]
def c31_16 : List SOper := [⟨some 37, .q (.bin .eql (.t 35) (.c (.int .i64 1))), none⟩, ⟨some 36, .q (.mv (.t 37)), none⟩]
def c31_17 : List SOper := [⟨some 38, .q (.mv (.t 8)), none⟩, ⟨some 39, .q (.ldn 4 (.t 11)), none⟩, ⟨some 40, .a (.bsl 1 4 [(.int .i64 0), (.int .i64 0), (.int .i64 0), (.int .i64 0)] [(0, 4, (.t 39))]), none⟩, ⟨some 41, .e (.app 32 4 (.t 38) (.t 40)), none⟩, ⟨some 8, .q (.mv (.t 41)), none⟩]
def c31_18 : List SOper := [⟨some 42, .q (.mv (.t 9)), none⟩, ⟨some 43, .q (.fa 3 (.t 11)), none⟩, ⟨some 44, .q (.ld (.t 43)), none⟩, ⟨some 45, .q (.bin .add (.t 42) (.t 44)), none⟩, ⟨some 9, .q (.mv (.t 45)), none⟩]
def c31_19 : SCode := .seq (.region c31_17 [0, 1, 8, 9, 10, 11]) (.region c31_18 [0, 1, 8, 9, 10])
def c31_20 : List SOper := [⟨some 47, .q (.bin .eql (.t 35) (.c (.int .i64 3))), none⟩, ⟨some 46, .q (.mv (.t 47)), none⟩]
def c31_21 : List SOper := [⟨some 48, .q (.mv (.t 8)), none⟩, ⟨some 49, .q (.fa 3 (.t 11)), none⟩, ⟨some 50, .q (.ld (.t 49)), none⟩, ⟨some 51, .q (.build [(.int .i64 0), (.int .i64 0), (.int .i64 0), (.int .i64 0)] [(0, 1, (.c (.int .i64 2))), (3, 1, (.t 50))]), none⟩, ⟨some 52, .a (.bsl 1 4 [(.int .i64 0), (.int .i64 0), (.int .i64 0), (.int .i64 0)] [(0, 4, (.t 51))]), none⟩, ⟨some 53, .e (.app 32 4 (.t 48) (.t 52)), none⟩, ⟨some 8, .q (.mv (.t 53)), none⟩]
def c31_22 : List SOper := [⟨some 55, .q (.bin .eql (.t 35) (.c (.int .i64 2))), none⟩, ⟨some 54, .q (.mv (.t 55)), none⟩]
def c31_23 : List SOper := [⟨some 56, .q (.mv (.t 0)), none⟩, ⟨some 57, .q (.mv (.t 9)), none⟩, ⟨some 58, .q (.mv (.t 9)), none⟩, ⟨some 59, .q (.fa 3 (.t 11)), none⟩, ⟨some 60, .q (.ld (.t 59)), none⟩, ⟨some 61, .q (.bin .add (.t 58) (.t 60)), none⟩, ⟨some 62, .e (.call 53 [(.t 56), (.t 57), (.t 61)]), none⟩, ⟨some 63, .e (.call 52 [(.t 62)]), none⟩, ⟨some 12, .q (.mv (.t 63)), none⟩]
def c31_24 : List SOper := [⟨some 13, .q (.mv (.c (.int .i64 0))), none⟩]
def c31_25 : List SOper := [⟨some 64, .q (.mv (.t 13)), none⟩, ⟨some 65, .q (.mv (.t 12)), none⟩, ⟨some 66, .q (.len (.t 65)), none⟩, ⟨some 67, .q (.bin .lss (.t 64) (.t 66)), none⟩]
def c31_26 : SCode := .cond (.t 67) .skip (.exit 3)
def c31_27 : SCode := .seq (.region c31_25 [0, 1, 8, 9, 10, 11, 12, 13, 67]) c31_26
def c31_28 : List SOper := [⟨some 70, .q (.mv (.t 8)), none⟩, ⟨some 71, .q (.mv (.t 12)), none⟩, ⟨some 72, .q (.mv (.t 13)), none⟩, ⟨some 73, .q (.ia 3 (.t 71) (.t 72)), none⟩, ⟨some 74, .q (.fa 0 (.t 73)), none⟩, ⟨some 75, .q (.ld (.t 74)), none⟩, ⟨some 76, .q (.mv (.t 12)), none⟩, ⟨some 77, .q (.mv (.t 13)), none⟩, ⟨some 78, .q (.ia 3 (.t 76) (.t 77)), none⟩, ⟨some 79, .q (.fa 1 (.t 78)), none⟩, ⟨some 80, .q (.ld (.t 79)), none⟩, ⟨some 81, .q (.mv (.t 12)), none⟩, ⟨some 82, .q (.mv (.t 13)), none⟩, ⟨some 83, .q (.ia 3 (.t 81) (.t 82)), none⟩, ⟨some 84, .q (.fa 2 (.t 83)), none⟩, ⟨some 85, .q (.ld (.t 84)), none⟩, ⟨some 86, .q (.build [(.int .i64 0), (.int .i64 0), (.int .i64 0), (.int .i64 0)] [(0, 1, (.c (.int .i64 3))), (1, 1, (.t 75)), (2, 1, (.t 80)), (3, 1, (.t 85))]), none⟩, ⟨some 87, .a (.bsl 1 4 [(.int .i64 0), (.int .i64 0), (.int .i64 0), (.int .i64 0)] [(0, 4, (.t 86))]), none⟩, ⟨some 88, .e (.app 32 4 (.t 70) (.t 87)), none⟩, ⟨some 8, .q (.mv (.t 88)), none⟩]
def c31_29 : SCode := .block 4 (.region c31_28 [0, 1, 8, 9, 10, 11, 12, 13])
def c31_30 : List SOper := [⟨some 68, .q (.mv (.t 13)), none⟩, ⟨some 69, .q (.bin .add (.t 68) (.c (.int .i64 1))), none⟩, ⟨some 13, .q (.mv (.t 69)), none⟩]
def c31_31 : SCode := .seq c31_29 (.region c31_30 [0, 1, 8, 9, 10, 11, 12, 13])
def c31_32 : SCode := .seq c31_27 c31_31
def c31_33 : SCode := .loop c31_32
def c31_34 : SCode := .block 3 c31_33
def c31_35 : SCode := .seq (.region c31_24 [0, 1, 8, 9, 10, 11, 12, 13]) c31_34
def c31_36 : List SOper := [⟨some 89, .q (.mv (.t 9)), none⟩, ⟨some 90, .q (.fa 3 (.t 11)), none⟩, ⟨some 91, .q (.ld (.t 90)), none⟩, ⟨some 92, .q (.bin .add (.t 89) (.t 91)), none⟩, ⟨some 9, .q (.mv (.t 92)), none⟩]
def c31_37 : SCode := .seq c31_35 (.region c31_36 [0, 1, 8, 9, 10])
def c31_38 : SCode := .seq (.region c31_23 [0, 1, 8, 9, 10, 11, 12]) c31_37
def c31_39 : SCode := .cond (.t 54) c31_38 .skip
def c31_40 : SCode := .seq (.region c31_22 [0, 1, 8, 9, 10, 11, 54]) c31_39
def c31_41 : SCode := .cond (.t 46) (.region c31_21 [0, 1, 8, 9, 10]) c31_40
def c31_42 : SCode := .seq (.region c31_20 [0, 1, 8, 9, 10, 11, 35, 46]) c31_41
def c31_43 : SCode := .cond (.t 36) c31_19 c31_42
def c31_44 : SCode := .seq (.region c31_16 [0, 1, 8, 9, 10, 11, 35, 36]) c31_43
def c31_45 : SCode := .block 2 c31_44
def c31_46 : SCode := .seq (.region c31_15 [0, 1, 8, 9, 10, 11, 35]) c31_45
def c31_47 : SCode := .seq (.region c31_14 [0, 1, 8, 9, 10, 11]) c31_46
def c31_48 : SCode := .block 1 c31_47
def c31_49 : List SOper := [⟨some 28, .q (.mv (.t 10)), none⟩, ⟨some 29, .q (.bin .add (.t 28) (.c (.int .i64 1))), none⟩, ⟨some 10, .q (.mv (.t 29)), none⟩]
def c31_50 : SCode := .seq c31_48 (.region c31_49 [0, 1, 8, 9, 10])
def c31_51 : SCode := .seq c31_13 c31_50
def c31_52 : SCode := .loop c31_51
def c31_53 : SCode := .block 0 c31_52
def c31_54 : SCode := .seq (.region c31_10 [0, 1, 8, 9, 10]) c31_53
def c31_55 : List SOper := [⟨some 93, .q (.mv (.t 8)), none⟩, ⟨some 4, .q (.mv (.t 93)), none⟩, ⟨some 5, .q (.mv (.c (.bool true))), none⟩]
def c31_56 : SCode := .seq (.region c31_55 [4, 5]) .ret
def c31_57 : SCode := .seq c31_54 c31_56
def c31_58 : SCode := .seq (.region c31_9 [0, 1, 8, 9]) c31_57
def c31_59 : SCode := .seq (.region c31_8 [0, 1, 8]) c31_58
def c31_60 : SCode := .seq c31_7 c31_59
def c31_61 : SCode := .seq (.region c31_0 [0, 1]) c31_60
def c31 : SCode := c31_61
theorem w31 : type_of% (And.intro (uR Try.prog c31_0.eq_1) (And.intro (uR Try.prog c31_1.eq_1) (And.intro (uR Try.prog c31_2.eq_1) (And.intro (uR Try.prog c31_3.eq_1) (And.intro (uC Try.prog c31_4.eq_1) (And.intro (uC Try.prog c31_5.eq_1) (And.intro (uC Try.prog c31_6.eq_1) (And.intro (uC Try.prog c31_7.eq_1) (And.intro (uR Try.prog c31_8.eq_1) (And.intro (uR Try.prog c31_9.eq_1) (And.intro (uR Try.prog c31_10.eq_1) (And.intro (uR Try.prog c31_11.eq_1) (And.intro (uC Try.prog c31_12.eq_1) (And.intro (uC Try.prog c31_13.eq_1) (And.intro (uR Try.prog c31_14.eq_1) (And.intro (uR Try.prog c31_15.eq_1) (And.intro (uR Try.prog c31_16.eq_1) (And.intro (uR Try.prog c31_17.eq_1) (And.intro (uR Try.prog c31_18.eq_1) (And.intro (uC Try.prog c31_19.eq_1) (And.intro (uR Try.prog c31_20.eq_1) (And.intro (uR Try.prog c31_21.eq_1) (And.intro (uR Try.prog c31_22.eq_1) (And.intro (uR Try.prog c31_23.eq_1) (And.intro (uR Try.prog c31_24.eq_1) (And.intro (uR Try.prog c31_25.eq_1) (And.intro (uC Try.prog c31_26.eq_1) (And.intro (uC Try.prog c31_27.eq_1) (And.intro (uR Try.prog c31_28.eq_1) (And.intro (uC Try.prog c31_29.eq_1) (And.intro (uR Try.prog c31_30.eq_1) (And.intro (uC Try.prog c31_31.eq_1) (And.intro (uC Try.prog c31_32.eq_1) (And.intro (uC Try.prog c31_33.eq_1) (And.intro (uC Try.prog c31_34.eq_1) (And.intro (uC Try.prog c31_35.eq_1) (And.intro (uR Try.prog c31_36.eq_1) (And.intro (uC Try.prog c31_37.eq_1) (And.intro (uC Try.prog c31_38.eq_1) (And.intro (uC Try.prog c31_39.eq_1) (And.intro (uC Try.prog c31_40.eq_1) (And.intro (uC Try.prog c31_41.eq_1) (And.intro (uC Try.prog c31_42.eq_1) (And.intro (uC Try.prog c31_43.eq_1) (And.intro (uC Try.prog c31_44.eq_1) (And.intro (uC Try.prog c31_45.eq_1) (And.intro (uC Try.prog c31_46.eq_1) (And.intro (uC Try.prog c31_47.eq_1) (And.intro (uC Try.prog c31_48.eq_1) (And.intro (uR Try.prog c31_49.eq_1) (And.intro (uC Try.prog c31_50.eq_1) (And.intro (uC Try.prog c31_51.eq_1) (And.intro (uC Try.prog c31_52.eq_1) (And.intro (uC Try.prog c31_53.eq_1) (And.intro (uC Try.prog c31_54.eq_1) (And.intro (uR Try.prog c31_55.eq_1) (And.intro (uC Try.prog c31_56.eq_1) (And.intro (uC Try.prog c31_57.eq_1) (And.intro (uC Try.prog c31_58.eq_1) (And.intro (uC Try.prog c31_59.eq_1) (And.intro (uC Try.prog c31_60.eq_1) (And.intro (uC Try.prog c31_61.eq_1) (uC Try.prog c31.eq_1))))))))))))))))))))))))))))))))))))))))))))))))))))))))))))))) := (And.intro (uR Try.prog c31_0.eq_1) (And.intro (uR Try.prog c31_1.eq_1) (And.intro (uR Try.prog c31_2.eq_1) (And.intro (uR Try.prog c31_3.eq_1) (And.intro (uC Try.prog c31_4.eq_1) (And.intro (uC Try.prog c31_5.eq_1) (And.intro (uC Try.prog c31_6.eq_1) (And.intro (uC Try.prog c31_7.eq_1) (And.intro (uR Try.prog c31_8.eq_1) (And.intro (uR Try.prog c31_9.eq_1) (And.intro (uR Try.prog c31_10.eq_1) (And.intro (uR Try.prog c31_11.eq_1) (And.intro (uC Try.prog c31_12.eq_1) (And.intro (uC Try.prog c31_13.eq_1) (And.intro (uR Try.prog c31_14.eq_1) (And.intro (uR Try.prog c31_15.eq_1) (And.intro (uR Try.prog c31_16.eq_1) (And.intro (uR Try.prog c31_17.eq_1) (And.intro (uR Try.prog c31_18.eq_1) (And.intro (uC Try.prog c31_19.eq_1) (And.intro (uR Try.prog c31_20.eq_1) (And.intro (uR Try.prog c31_21.eq_1) (And.intro (uR Try.prog c31_22.eq_1) (And.intro (uR Try.prog c31_23.eq_1) (And.intro (uR Try.prog c31_24.eq_1) (And.intro (uR Try.prog c31_25.eq_1) (And.intro (uC Try.prog c31_26.eq_1) (And.intro (uC Try.prog c31_27.eq_1) (And.intro (uR Try.prog c31_28.eq_1) (And.intro (uC Try.prog c31_29.eq_1) (And.intro (uR Try.prog c31_30.eq_1) (And.intro (uC Try.prog c31_31.eq_1) (And.intro (uC Try.prog c31_32.eq_1) (And.intro (uC Try.prog c31_33.eq_1) (And.intro (uC Try.prog c31_34.eq_1) (And.intro (uC Try.prog c31_35.eq_1) (And.intro (uR Try.prog c31_36.eq_1) (And.intro (uC Try.prog c31_37.eq_1) (And.intro (uC Try.prog c31_38.eq_1) (And.intro (uC Try.prog c31_39.eq_1) (And.intro (uC Try.prog c31_40.eq_1) (And.intro (uC Try.prog c31_41.eq_1) (And.intro (uC Try.prog c31_42.eq_1) (And.intro (uC Try.prog c31_43.eq_1) (And.intro (uC Try.prog c31_44.eq_1) (And.intro (uC Try.prog c31_45.eq_1) (And.intro (uC Try.prog c31_46.eq_1) (And.intro (uC Try.prog c31_47.eq_1) (And.intro (uC Try.prog c31_48.eq_1) (And.intro (uR Try.prog c31_49.eq_1) (And.intro (uC Try.prog c31_50.eq_1) (And.intro (uC Try.prog c31_51.eq_1) (And.intro (uC Try.prog c31_52.eq_1) (And.intro (uC Try.prog c31_53.eq_1) (And.intro (uC Try.prog c31_54.eq_1) (And.intro (uR Try.prog c31_55.eq_1) (And.intro (uC Try.prog c31_56.eq_1) (And.intro (uC Try.prog c31_57.eq_1) (And.intro (uC Try.prog c31_58.eq_1) (And.intro (uC Try.prog c31_59.eq_1) (And.intro (uC Try.prog c31_60.eq_1) (And.intro (uC Try.prog c31_61.eq_1) (uC Try.prog c31.eq_1)))))))))))))))))))))))))))))))))))))))))))))))))))))))))))))))
def v31 : List RV := [.t 4, .t 5]
theorem s31 : slimF Try.prog Try.f31 = some (c31.bare, v31) := by kernel_rfl

def PairC (h h' : Heap) (r : Value) (p : List Change × Bool) : Prop := ∃ rv, r = .tuple #[rv, .bool p.2] ∧ Fresh h h' encChange 4 rv p.1
def addOf (k : Clip) : Change := ⟨3, k.src, k.inn, k.len⟩
def turnedStep (a : List Clip) (s : List Change × Int) (c : Change) : List Change × Int :=
  if c.kind = 3 then (s.1 ++ [⟨2, 0, 0, c.len⟩], s.2) else if c.kind = 1 then (s.1 ++ [c], s.2 + c.len) else (s.1 ++ (join (partS s.2 (s.2 + c.len) 0 a)).map addOf, s.2 + c.len)
def turnedL (a : List Clip) (l : List Change) : List Change × Int := l.foldl (turnedStep a) ([], 0)
def turnedF (a : List Clip) (l : List Change) : List Change × Bool := if (applyF a l).2 = true then ((turnedL a l).1, true) else ([], false)
theorem turnedL_take (a : List Clip) (l : List Change) (i : Nat) (hi : i < l.length) : turnedL a (l.take (i + 1)) = turnedStep a (turnedL a (l.take i)) l[i] := by
  rw [List.take_succ_eq_append_getElem hi, turnedL, List.foldl_append]; rfl
theorem turnedL_bound (a : List Clip) (l : List Change) (hl : ∀ c ∈ l, changeOk c) (ha : a.length ≤ 300) : 0 ≤ (turnedL a l).2 ∧ (turnedL a l).2 ≤ 10000000 * l.length ∧ (turnedL a l).1.length ≤ 300 * l.length := by
  have key : ∀ (l : List Change) (s : List Change × Int), (∀ c ∈ l, changeOk c) → s.2 ≤ (l.foldl (turnedStep a) s).2 ∧ (l.foldl (turnedStep a) s).2 ≤ s.2 + 10000000 * l.length ∧ (l.foldl (turnedStep a) s).1.length ≤ s.1.length + 300 * l.length := by
    intro l
    induction l with
    | nil => intro s _; simp
    | cons c l ih =>
      intro s h
      have hc := changeOk_len (h c (by simp))
      have := ih (turnedStep a s c) (fun x hx => h x (by simp [hx]))
      have hp := partS_length s.2 (s.2 + c.len) a 0
      have hj := join_length (partS s.2 (s.2 + c.len) 0 a)
      have st : s.2 ≤ (turnedStep a s c).2 ∧ (turnedStep a s c).2 ≤ s.2 + 10000000 ∧ (turnedStep a s c).1.length ≤ s.1.length + 300 := by
        unfold turnedStep
        split
        · simp; omega
        · split
          · simp; omega
          · simp only [List.length_append, List.length_map]; omega
      simp only [List.foldl_cons, List.length_cons]; omega
  have := key l ([], 0) hl
  simpa [turnedL] using this
theorem applyF_true {a : List Clip} {l : List Change} (h : (applyF a l).2 = true) : trackOk a ∧ changesOk l ∧ (applyL a l).2 = sumLen a := by
  unfold applyF at h
  by_cases q : trackOk a ∧ changesOk l ∧ (applyL a l).2 = sumLen a
  · exact q
  · rw [if_neg q] at h; simp at h
theorem specTurned_ok (h : Heap) (v w : Value) (l : List Clip) (m : List Change) (s : SlT h encClip 3 v l) (sw : SlT h encChange 4 w m) (hl : l.length ≤ 1100000) (hm : m.length ≤ 1100000) :
    ACall Try.prog 31 [v, w] h fun r h' => PairC h h' r (turnedF l m) := by
  refine ACall.of Try.func31 s31 (of_decide_eq_true rfl) ?_
  simp (maxSteps := 4000000) (disch := omega) only [ah, am, Nat.reduceEqDiff, reduceCtorEq, Nat.reduceAdd, Nat.reduceLeDiff, Nat.reduceMul, Nat.reduceLT, if_true, if_false, true_and, and_true, and_self, Nat.reduceBEq, QOp.loads, boxO, bslO, buildO, cutL, fillV, putL, w31, v31]
  refine stepC.of (specApply_ok _ _ _ _ _ s sw hl hm) ?_
  rintro _ H1 ⟨av, rfl, FA⟩
  have e1 := FA.1
  simp (maxSteps := 4000000) (disch := omega) only [ah, am, Nat.reduceEqDiff, reduceCtorEq, Nat.reduceAdd, Nat.reduceLeDiff, Nat.reduceMul, Nat.reduceLT, if_true, if_false, true_and, and_true, and_self, Nat.reduceBEq, QOp.loads, boxO, bslO, buildO, cutL, fillV, putL, w31, v31]
  by_cases hk' : (applyF l m).2 = true
  rotate_left
  · have hk2 : (applyF l m).2 = false := by simpa using hk'
    simp (maxSteps := 4000000) (disch := omega) only [ah, am, Nat.reduceEqDiff, reduceCtorEq, Nat.reduceAdd, Nat.reduceLeDiff, Nat.reduceMul, Nat.reduceLT, if_true, if_false, true_and, and_true, and_self, Nat.reduceBEq, QOp.loads, boxO, bslO, buildO, cutL, fillV, putL, w31, v31, hk2]
    rw [show turnedF l m = ([], false) from if_neg hk']
    exact ⟨_, rfl, (Fresh.new0 _ encChange_len (by omega)).mono e1⟩
  obtain ⟨ht, hc, hs⟩ := applyF_true hk'
  have hlen := ht.1; have hok := ht.2.1; have hmlen := hc.1; have hmok := hc.2
  have hT : turnedF l m = ((turnedL l m).1, true) := if_pos hk'
  rw [hT]
  simp (maxSteps := 4000000) (disch := omega) only [ah, am, Nat.reduceEqDiff, reduceCtorEq, Nat.reduceAdd, Nat.reduceLeDiff, Nat.reduceMul, Nat.reduceLT, if_true, if_false, true_and, and_true, and_self, Nat.reduceBEq, QOp.loads, boxO, bslO, buildO, cutL, fillV, putL, w31, v31, hk']
  refine SW_loop_up (fun i E H => ∃ ov, E = [(0, v), (1, w), (8, ov), (9, .int .i64 (turnedL l (m.take i)).2), (10, .int .i64 i)] ∧ Fresh H1 H encChange 4 ov (turnedL l (m.take i)).1) m.length 0 (by omega)
    ⟨.slice (some ⟨H1.size, 0, none⟩) 0 4, by simp [turnedL], by simpa [turnedL] using Fresh.new0 H1 encChange_len (by omega)⟩ ?_
  rintro i E H hi ⟨ov, rfl, F⟩
  have E0 := e1.trans F.1
  have R := (sw.ext E0).rulesN
  have W : IntKind.i64.wrap ((i : Int) + 1) = ((i + 1 : Nat) : Int) := i64e (by omega) (by omega)
  have B := turnedL_bound l (m.take i) (fun c hc => hmok c (List.mem_of_mem_take hc)) hlen
  have hti : (m.take i).length ≤ 300 := by simp; omega
  simp (maxSteps := 4000000) (disch := omega) only [ah, am, Nat.reduceEqDiff, reduceCtorEq, Nat.reduceAdd, Nat.reduceLeDiff, Nat.reduceMul, Nat.reduceLT, if_true, if_false, true_and, and_true, and_self, Nat.reduceBEq, QOp.loads, boxO, bslO, buildO, cutL, fillV, putL, w31, v31, R]
  refine stepI.split (fun hp => ?_) (fun hp => ?_)
  · have hi' : i < m.length := by omega
    have J := turnedL_take l m i hi'
    have cl := changeOk_len (hmok _ (List.getElem_mem hi'))
    have hk3 : m[i].kind = 3 ∨ m[i].kind = 1 ∨ m[i].kind = 2 := by have := hmok _ (List.getElem_mem hi'); simp only [changeOk] at this; omega
    rw [J]
    generalize turnedL l (m.take i) = st at *
    obtain ⟨out, pos⟩ := st
    simp only at B F ⊢
    have F0 : Fk [] H1 (H.more [encChange m[i]]) encChange 4 ov out [(H.size, encChange m[i])] := (Fk.of F).more [encChange m[i]]
    by_cases h1 : m[i].kind = 1
    · have h1' : decide (m[i].kind = 1) = true := decide_eq_true h1
      have h3 : ¬m[i].kind = 3 := by omega
      have W2 : IntKind.i64.wrap (pos + m[i].len) = pos + m[i].len := i64w (by omega)
      obtain ⟨v2, H3, ea, F3⟩ := (Fk.of (X := []) F).app1 [encChange m[i]] m[i] (bytes := 32) (by omega)
      have X3 := F3.ld (i := H.size) (cs := encChange m[i]) (by simp [boxesAt])
      simp only [boxesAt, List.cons_append, List.append_nil, List.nil_append, List.length_nil, List.length_cons, Nat.zero_add, Nat.add_zero, encChange] at ea X3
      simp (maxSteps := 4000000) (disch := omega) only [ah, am, Nat.reduceEqDiff, reduceCtorEq, Nat.reduceAdd, Nat.reduceLeDiff, Nat.reduceMul, Nat.reduceLT, if_true, if_false, true_and, and_true, and_self, Nat.reduceBEq, QOp.loads, boxO, bslO, buildO, cutL, fillV, putL, w31, v31, R, encChange, h1', ea, W, W2, X3]
      refine ⟨hi', v2, by simp only [turnedStep, if_neg h3, if_pos h1], ?_⟩
      simp only [turnedStep, if_neg h3, if_pos h1]; exact F3.fresh
    have h1' : decide (m[i].kind = 1) = false := decide_eq_false h1
    by_cases h3 : m[i].kind = 3
    · have h3' : decide (m[i].kind = 3) = true := decide_eq_true h3
      obtain ⟨v2, H3, ea, F3⟩ := (Fk.of (X := []) F).app1 [encChange m[i]] ⟨2, 0, 0, m[i].len⟩ (bytes := 32) (by omega)
      simp only [boxesAt, List.cons_append, List.append_nil, List.nil_append, List.length_nil, List.length_cons, Nat.zero_add, Nat.add_zero, encChange] at ea
      simp (maxSteps := 4000000) (disch := omega) only [ah, am, Nat.reduceEqDiff, reduceCtorEq, Nat.reduceAdd, Nat.reduceLeDiff, Nat.reduceMul, Nat.reduceLT, if_true, if_false, true_and, and_true, and_self, Nat.reduceBEq, QOp.loads, boxO, bslO, buildO, cutL, fillV, putL, w31, v31, R, encChange, h1', h3', ea, W]
      refine ⟨hi', v2, by simp only [turnedStep, if_pos h3], ?_⟩
      simp only [turnedStep, if_pos h3]; exact F3.fresh
    have h3' : decide (m[i].kind = 3) = false := decide_eq_false h3
    have h2' : decide (m[i].kind = 2) = true := decide_eq_true (by omega)
    have W2 : IntKind.i64.wrap (pos + m[i].len) = pos + m[i].len := i64w (by omega)
    have pa := l4Part_ok (H.more [encChange m[i]]) v l pos (pos + m[i].len) (s.ext (E0.trans (Ext.more H _))) hlen hok (by omega) (by omega)
    simp only [encChange] at pa
    simp (maxSteps := 4000000) (disch := omega) only [ah, am, Nat.reduceEqDiff, reduceCtorEq, Nat.reduceAdd, Nat.reduceLeDiff, Nat.reduceMul, Nat.reduceLT, if_true, if_false, true_and, and_true, and_self, Nat.reduceBEq, QOp.loads, boxO, bslO, buildO, cutL, fillV, putL, w31, v31, R, encChange, h1', h2', h3', W2]
    refine stepC.of pa ?_
    intro pv H3 F3
    have hpl := partS_length pos (pos + m[i].len) l 0
    simp (maxSteps := 4000000) (disch := omega) only [ah, am, Nat.reduceEqDiff, reduceCtorEq, Nat.reduceAdd, Nat.reduceLeDiff, Nat.reduceMul, Nat.reduceLT, if_true, if_false, true_and, and_true, and_self, Nat.reduceBEq, QOp.loads, boxO, bslO, buildO, cutL, fillV, putL, w31, v31]
    refine stepC.of (l4Join_ok _ _ _ F3.slt (by omega) (fun k hk => (partS_mem _ _ _ _ hok k hk).in)) ?_
    intro jv H4 F4
    have T := Tw.of F0 (F4.mono F3.1)
    have hjl := join_length (partS pos (pos + m[i].len) 0 l)
    have hstep : turnedStep l (out, pos) m[i] = (out ++ (join (partS pos (pos + m[i].len) 0 l)).map addOf, pos + m[i].len) := by simp only [turnedStep, if_neg h3, if_neg h1]
    rw [hstep]
    clear F4 F3 pa hstep
    generalize join (partS pos (pos + m[i].len) 0 l) = jl at *
    simp (maxSteps := 4000000) (disch := omega) only [ah, am, Nat.reduceEqDiff, reduceCtorEq, Nat.reduceAdd, Nat.reduceLeDiff, Nat.reduceMul, Nat.reduceLT, if_true, if_false, true_and, and_true, and_self, Nat.reduceBEq, QOp.loads, boxO, bslO, buildO, cutL, fillV, putL, w31, v31]
    refine SW_loop_up (fun k E K => ∃ ov', E = [(0, v), (1, w), (8, ov'), (9, .int .i64 pos), (10, .int .i64 i), (11, .pointer (some ⟨H.size, 0, none⟩)), (12, jv), (13, .int .i64 k)] ∧
      Tw (H.more [encChange m[i]]).size H4.size H1 K encChange 4 ov' (out ++ (jl.take k).map addOf) [(H.size, encChange m[i])] encClip 3 jv jl) jl.length 0 (by omega)
      ⟨ov, rfl, by simpa using T⟩ ?_
    rintro k E K hk ⟨ov', rfl, TK⟩
    have RJ := TK.mine.slt.rulesN
    have XK := TK.fk.ld (i := H.size) (cs := encChange m[i]) (by simp)
    simp only [encChange] at XK
    have W3 : IntKind.i64.wrap ((k : Int) + 1) = ((k + 1 : Nat) : Int) := i64e (by omega) (by omega)
    simp (maxSteps := 4000000) (disch := omega) only [ah, am, Nat.reduceEqDiff, reduceCtorEq, Nat.reduceAdd, Nat.reduceLeDiff, Nat.reduceMul, Nat.reduceLT, if_true, if_false, true_and, and_true, and_self, Nat.reduceBEq, QOp.loads, boxO, bslO, buildO, cutL, fillV, putL, w31, v31, RJ]
    refine stepI.split (fun hq => ?_) (fun hq => ?_)
    · have hk' : k < jl.length := by omega
      obtain ⟨v2, K2, ea, T2⟩ := TK.app1 [] (addOf jl[k]) (bytes := 32) (by simp only [List.length_append, List.length_map, List.length_take]; omega)
      simp only [List.nil_append, List.length_nil, Nat.add_zero, encChange, addOf] at ea
      simp (maxSteps := 4000000) (disch := omega) only [ah, am, Nat.reduceEqDiff, reduceCtorEq, Nat.reduceAdd, Nat.reduceLeDiff, Nat.reduceMul, Nat.reduceLT, if_true, if_false, true_and, and_true, and_self, Nat.reduceBEq, QOp.loads, boxO, bslO, buildO, cutL, fillV, putL, w31, v31, RJ, encClip, ea, W3]
      refine ⟨hk', v2, rfl, ?_⟩
      rw [List.take_succ_eq_append_getElem hk', List.map_append, ← List.append_assoc]
      simp only [size_more, List.length_cons, List.length_nil, Nat.zero_add] at T2
      exact T2
    · obtain rfl : k = jl.length := by omega
      rw [List.take_length] at TK
      simp (maxSteps := 4000000) (disch := omega) only [ah, am, Nat.reduceEqDiff, reduceCtorEq, Nat.reduceAdd, Nat.reduceLeDiff, Nat.reduceMul, Nat.reduceLT, if_true, if_false, true_and, and_true, and_self, Nat.reduceBEq, QOp.loads, boxO, bslO, buildO, cutL, fillV, putL, w31, v31, RJ, XK, W2, W]
      exact ⟨hi', ov', rfl, TK.fk.fresh⟩
  · simp (maxSteps := 4000000) (disch := omega) only [ah, am, Nat.reduceEqDiff, reduceCtorEq, Nat.reduceAdd, Nat.reduceLeDiff, Nat.reduceMul, Nat.reduceLT, if_true, if_false, true_and, and_true, and_self, Nat.reduceBEq, QOp.loads, boxO, bslO, buildO, cutL, fillV, putL, w31, v31, R, W]
    obtain rfl : i = m.length := by omega
    rw [List.take_length] at F B
    exact ⟨_, rfl, F.mono e1⟩
end Go.Proofs.Ytbnppofkpgfhnaa

namespace Go.Proofs.Ytbnppofkpgfhnaa
open Go Go.Ah
set_option linter.unusedSimpArgs false
set_option linter.unusedVariables false
set_option maxRecDepth 10000
set_option maxHeartbeats 4000000
/-! 56 (loop.example/g00066/impl.Change).clip: parameters 1, live [0], slots [0:c, 1:c] -/
def c56_0 : List SOper := [⟨some 1, .a (.box (.t 0)), none⟩, ⟨some 2, .a (.new [(.int .i64 0), (.int .i64 0), (.int .i64 0)]), none⟩]
def c56_1 : List SOper := [⟨some 3, .q (.fa 1 (.t 1)), none⟩, ⟨some 4, .q (.ld (.t 3)), none⟩, ⟨some 5, .q (.fa 2 (.t 1)), none⟩, ⟨some 6, .q (.ld (.t 5)), none⟩, ⟨some 7, .q (.fa 3 (.t 1)), none⟩, ⟨some 8, .q (.ld (.t 7)), none⟩, ⟨some 9, .q (.build [(.int .i64 0), (.int .i64 0), (.int .i64 0)] [(0, 1, (.t 4)), (1, 1, (.t 6)), (2, 1, (.t 8))]), none⟩, ⟨none, .e (.st 3 (.t 2) (.t 9)), none⟩]
def c56_2 : SCode := .seq (.region c56_1 [2]) .ret
def c56_3 : SCode := .seq (.region c56_0 [1, 2]) c56_2
def c56 : SCode := c56_3
theorem w56 : type_of% (And.intro (uR Try.prog c56_0.eq_1) (And.intro (uR Try.prog c56_1.eq_1) (And.intro (uC Try.prog c56_2.eq_1) (And.intro (uC Try.prog c56_3.eq_1) (uC Try.prog c56.eq_1))))) := (And.intro (uR Try.prog c56_0.eq_1) (And.intro (uR Try.prog c56_1.eq_1) (And.intro (uC Try.prog c56_2.eq_1) (And.intro (uC Try.prog c56_3.eq_1) (uC Try.prog c56.eq_1)))))
def v56 : List RV := [.c 2 (some 3)]
theorem s56 : slimF Try.prog Try.f56 = some (c56.bare, v56) := by kernel_rfl
/-! 86 (loop.example/g00066/impl.Change).ok: parameters 1, live [0], slots [0:c, 1:c] -/
def c86_0 : List SOper := [⟨some 1, .a (.box (.t 0)), none⟩, ⟨some 2, .q (.mv (.c (.bool false))), none⟩]
def c86_1 : List SOper := [⟨some 3, .q (.fa 0 (.t 1)), none⟩, ⟨some 4, .q (.ld (.t 3)), none⟩, ⟨some 5, .q (.bin .eql (.t 4) (.c (.int .i64 3))), none⟩]
def c86_2 : List SOper := [⟨some 6, .q (.ldn 4 (.t 1)), none⟩, ⟨some 7, .e (.call 56 [(.t 6)]), none⟩, ⟨some 8, .e (.call 75 [(.t 7)]), none⟩, ⟨some 2, .q (.mv (.t 8)), none⟩]
def c86_3 : SCode := .seq (.region c86_2 [2]) .ret
def c86_4 : SCode := .cond (.t 5) c86_3 .skip
def c86_5 : SCode := .seq (.region c86_1 [1, 5]) c86_4
def c86_6 : List SOper := [⟨some 9, .q (.fa 0 (.t 1)), none⟩, ⟨some 10, .q (.ld (.t 9)), none⟩, ⟨some 11, .q (.bin .eql (.t 10) (.c (.int .i64 1))), none⟩, ⟨some 12, .q (.mv (.t 11)), none⟩, ⟨some 13, .q (.fa 0 (.t 1)), some (12, false)⟩, ⟨some 14, .q (.ld (.t 13)), some (12, false)⟩, ⟨some 15, .q (.bin .eql (.t 14) (.c (.int .i64 2))), some (12, false)⟩, ⟨some 16, .q (.pick (.t 12) (.c (.bool true)) (.t 15)), none⟩, ⟨some 17, .q (.mv (.t 16)), none⟩, ⟨some 18, .q (.fa 1 (.t 1)), some (17, true)⟩, ⟨some 19, .q (.ld (.t 18)), some (17, true)⟩, ⟨some 20, .q (.bin .eql (.t 19) (.c (.int .i64 0))), some (17, true)⟩, ⟨some 21, .q (.pick (.t 17) (.t 20) (.c (.bool false))), none⟩, ⟨some 22, .q (.mv (.t 21)), none⟩, ⟨some 23, .q (.fa 2 (.t 1)), some (22, true)⟩, ⟨some 24, .q (.ld (.t 23)), some (22, true)⟩, ⟨some 25, .q (.bin .eql (.t 24) (.c (.int .i64 0))), some (22, true)⟩, ⟨some 26, .q (.pick (.t 22) (.t 25) (.c (.bool false))), none⟩, ⟨some 27, .q (.mv (.t 26)), none⟩, ⟨some 28, .q (.fa 3 (.t 1)), some (27, true)⟩, ⟨some 29, .q (.ld (.t 28)), some (27, true)⟩, ⟨some 30, .e (.call 58 [(.t 29), (.c (.int .i64 1)), (.c (.int .i64 10000000))]), some (27, true)⟩, ⟨some 31, .q (.pick (.t 27) (.t 30) (.c (.bool false))), none⟩, ⟨some 2, .q (.mv (.t 31)), none⟩]
def c86_7 : SCode := .seq (.region c86_6 [2]) .ret
def c86_8 : SCode := .seq c86_5 c86_7
def c86_9 : SCode := .seq (.region c86_0 [1]) c86_8
def c86 : SCode := c86_9
theorem w86 : type_of% (And.intro (uR Try.prog c86_0.eq_1) (And.intro (uR Try.prog c86_1.eq_1) (And.intro (uR Try.prog c86_2.eq_1) (And.intro (uC Try.prog c86_3.eq_1) (And.intro (uC Try.prog c86_4.eq_1) (And.intro (uC Try.prog c86_5.eq_1) (And.intro (uR Try.prog c86_6.eq_1) (And.intro (uC Try.prog c86_7.eq_1) (And.intro (uC Try.prog c86_8.eq_1) (And.intro (uC Try.prog c86_9.eq_1) (uC Try.prog c86.eq_1))))))))))) := (And.intro (uR Try.prog c86_0.eq_1) (And.intro (uR Try.prog c86_1.eq_1) (And.intro (uR Try.prog c86_2.eq_1) (And.intro (uC Try.prog c86_3.eq_1) (And.intro (uC Try.prog c86_4.eq_1) (And.intro (uC Try.prog c86_5.eq_1) (And.intro (uR Try.prog c86_6.eq_1) (And.intro (uC Try.prog c86_7.eq_1) (And.intro (uC Try.prog c86_8.eq_1) (And.intro (uC Try.prog c86_9.eq_1) (uC Try.prog c86.eq_1)))))))))))
def v86 : List RV := [.t 2]
theorem s86 : slimF Try.prog Try.f86 = some (c86.bare, v86) := by kernel_rfl
/-! 85 loop.example/g00066/impl.changesOk$1: parameters 1, live [0], slots [0:c, 1:c] -/
def c85_0 : List SOper := [⟨some 1, .a (.box (.t 0)), none⟩, ⟨some 2, .q (.mv (.c (.bool false))), none⟩]
def c85_1 : List SOper := [⟨some 3, .q (.ldn 4 (.t 1)), none⟩, ⟨some 4, .e (.call 86 [(.t 3)]), none⟩, ⟨some 5, .q (.not (.t 4)), none⟩, ⟨some 2, .q (.mv (.t 5)), none⟩]
def c85_2 : SCode := .seq (.region c85_1 [2]) .ret
def c85_3 : SCode := .seq (.region c85_0 [1]) c85_2
def c85 : SCode := c85_3
theorem w85 : type_of% (And.intro (uR Try.prog c85_0.eq_1) (And.intro (uR Try.prog c85_1.eq_1) (And.intro (uC Try.prog c85_2.eq_1) (And.intro (uC Try.prog c85_3.eq_1) (uC Try.prog c85.eq_1))))) := (And.intro (uR Try.prog c85_0.eq_1) (And.intro (uR Try.prog c85_1.eq_1) (And.intro (uC Try.prog c85_2.eq_1) (And.intro (uC Try.prog c85_3.eq_1) (uC Try.prog c85.eq_1)))))
def v85 : List RV := [.t 2]
theorem s85 : slimF Try.prog Try.f85 = some (c85.bare, v85) := by kernel_rfl
/-! 93 slices.IndexFunc[[]loop.example/g00066/impl.Change,loop.example/g00066/impl.Change]: parameters 2, live [0, 1], slots [0:s, 1:f, 2:s, 3:f, 5:i] -/
def c93_0 : List SOper := [⟨some 4, .q (.mv (.c (.int .i64 0))), none⟩]
def c93_1 : List SOper := [⟨some 6, .q (.mv (.t 0)), none⟩, ⟨some 7, .q (.len (.t 6)), none⟩, ⟨some 8, .q (.mv (.c (.int .i64 0))), none⟩]
def c93_2 : List SOper := [⟨some 9, .q (.bin .lss (.t 8) (.t 7)), none⟩]
def c93_3 : SCode := .cond (.t 9) .skip (.exit 0)
def c93_4 : List SOper := [⟨some 10, .q (.mv (.t 8)), none⟩, ⟨some 5, .q (.mv (.t 10)), none⟩]
def c93_5 : List SOper := [⟨some 11, .q (.mv (.t 1)), none⟩, ⟨some 12, .q (.mv (.t 0)), none⟩, ⟨some 13, .q (.mv (.t 5)), none⟩, ⟨some 14, .q (.ia 4 (.t 12) (.t 13)), none⟩, ⟨some 15, .q (.ldn 4 (.t 14)), none⟩, ⟨some 16, .e (.callv (.t 11) [(.t 15)]), none⟩]
def c93_6 : List SOper := [⟨some 17, .q (.mv (.t 5)), none⟩, ⟨some 4, .q (.mv (.t 17)), none⟩]
def c93_7 : SCode := .seq (.region c93_6 [4]) .ret
def c93_8 : SCode := .cond (.t 16) c93_7 .skip
def c93_9 : SCode := .seq (.region c93_5 [0, 1, 5, 7, 8, 16]) c93_8
def c93_10 : SCode := .seq (.region c93_4 [0, 1, 5, 7, 8]) c93_9
def c93_11 : SCode := .block 1 c93_10
def c93_12 : List SOper := [⟨some 18, .q (.bin .add (.t 8) (.c (.int .i64 1))), none⟩, ⟨some 8, .q (.mv (.t 18)), none⟩]
def c93_13 : SCode := .seq c93_11 (.region c93_12 [0, 1, 7, 8])
def c93_14 : SCode := .seq c93_3 c93_13
def c93_15 : SCode := .seq (.region c93_2 [0, 1, 7, 8, 9]) c93_14
def c93_16 : SCode := .loop c93_15
def c93_17 : SCode := .block 0 c93_16
def c93_18 : SCode := .seq (.region c93_1 [0, 1, 7, 8]) c93_17
def c93_19 : List SOper := [⟨some 4, .q (.mv (.c (.int .i64 (-1)))), none⟩]
def c93_20 : SCode := .seq (.region c93_19 [4]) .ret
def c93_21 : SCode := .seq c93_18 c93_20
def c93_22 : SCode := .seq (.region c93_0 [0, 1]) c93_21
def c93 : SCode := c93_22
theorem w93 : type_of% (And.intro (uR Try.prog c93_0.eq_1) (And.intro (uR Try.prog c93_1.eq_1) (And.intro (uR Try.prog c93_2.eq_1) (And.intro (uC Try.prog c93_3.eq_1) (And.intro (uR Try.prog c93_4.eq_1) (And.intro (uR Try.prog c93_5.eq_1) (And.intro (uR Try.prog c93_6.eq_1) (And.intro (uC Try.prog c93_7.eq_1) (And.intro (uC Try.prog c93_8.eq_1) (And.intro (uC Try.prog c93_9.eq_1) (And.intro (uC Try.prog c93_10.eq_1) (And.intro (uC Try.prog c93_11.eq_1) (And.intro (uR Try.prog c93_12.eq_1) (And.intro (uC Try.prog c93_13.eq_1) (And.intro (uC Try.prog c93_14.eq_1) (And.intro (uC Try.prog c93_15.eq_1) (And.intro (uC Try.prog c93_16.eq_1) (And.intro (uC Try.prog c93_17.eq_1) (And.intro (uC Try.prog c93_18.eq_1) (And.intro (uR Try.prog c93_19.eq_1) (And.intro (uC Try.prog c93_20.eq_1) (And.intro (uC Try.prog c93_21.eq_1) (And.intro (uC Try.prog c93_22.eq_1) (uC Try.prog c93.eq_1)))))))))))))))))))))))) := (And.intro (uR Try.prog c93_0.eq_1) (And.intro (uR Try.prog c93_1.eq_1) (And.intro (uR Try.prog c93_2.eq_1) (And.intro (uC Try.prog c93_3.eq_1) (And.intro (uR Try.prog c93_4.eq_1) (And.intro (uR Try.prog c93_5.eq_1) (And.intro (uR Try.prog c93_6.eq_1) (And.intro (uC Try.prog c93_7.eq_1) (And.intro (uC Try.prog c93_8.eq_1) (And.intro (uC Try.prog c93_9.eq_1) (And.intro (uC Try.prog c93_10.eq_1) (And.intro (uC Try.prog c93_11.eq_1) (And.intro (uR Try.prog c93_12.eq_1) (And.intro (uC Try.prog c93_13.eq_1) (And.intro (uC Try.prog c93_14.eq_1) (And.intro (uC Try.prog c93_15.eq_1) (And.intro (uC Try.prog c93_16.eq_1) (And.intro (uC Try.prog c93_17.eq_1) (And.intro (uC Try.prog c93_18.eq_1) (And.intro (uR Try.prog c93_19.eq_1) (And.intro (uC Try.prog c93_20.eq_1) (And.intro (uC Try.prog c93_21.eq_1) (And.intro (uC Try.prog c93_22.eq_1) (uC Try.prog c93.eq_1))))))))))))))))))))))))
def v93 : List RV := [.t 4]
theorem s93 : slimF Try.prog Try.f93 = some (c93.bare, v93) := by kernel_rfl
/-! 84 slices.ContainsFunc[[]loop.example/g00066/impl.Change,loop.example/g00066/impl.Change]: parameters 2, live [0, 1], slots [0:s, 1:f, 2:s, 3:f] -/
def c84_0 : List SOper := [⟨some 4, .q (.mv (.c (.bool false))), none⟩]
def c84_1 : List SOper := [⟨some 5, .q (.mv (.t 0)), none⟩, ⟨some 6, .q (.mv (.t 1)), none⟩, ⟨some 7, .e (.call 93 [(.t 5), (.t 6)]), none⟩, ⟨some 8, .q (.bin .geq (.t 7) (.c (.int .i64 0))), none⟩, ⟨some 4, .q (.mv (.t 8)), none⟩]
def c84_2 : SCode := .seq (.region c84_1 [4]) .ret
def c84_3 : SCode := .seq (.region c84_0 [0, 1]) c84_2
def c84 : SCode := c84_3
theorem w84 : type_of% (And.intro (uR Try.prog c84_0.eq_1) (And.intro (uR Try.prog c84_1.eq_1) (And.intro (uC Try.prog c84_2.eq_1) (And.intro (uC Try.prog c84_3.eq_1) (uC Try.prog c84.eq_1))))) := (And.intro (uR Try.prog c84_0.eq_1) (And.intro (uR Try.prog c84_1.eq_1) (And.intro (uC Try.prog c84_2.eq_1) (And.intro (uC Try.prog c84_3.eq_1) (uC Try.prog c84.eq_1)))))
def v84 : List RV := [.t 4]
theorem s84 : slimF Try.prog Try.f84 = some (c84.bare, v84) := by kernel_rfl
/-! 55 loop.example/g00066/impl.changesOk: parameters 1, live [0], slots [0:list, 1:list] -/
def c55_0 : List SOper := [⟨some 2, .q (.mv (.c (.bool false))), none⟩]
def c55_1 : List SOper := [⟨some 3, .q (.mv (.t 0)), none⟩, ⟨some 4, .q (.len (.t 3)), none⟩, ⟨some 5, .q (.bin .leq (.t 4) (.c (.int .i64 300))), none⟩, ⟨some 6, .q (.mv (.t 5)), none⟩, ⟨some 7, .q (.mv (.t 0)), some (6, true)⟩, ⟨some 8, .e (.call 84 [(.t 7), (.f 85)]), some (6, true)⟩, ⟨some 9, .q (.not (.t 8)), some (6, true)⟩, ⟨some 10, .q (.pick (.t 6) (.t 9) (.c (.bool false))), none⟩, ⟨some 2, .q (.mv (.t 10)), none⟩]
def c55_2 : SCode := .seq (.region c55_1 [2]) .ret
def c55_3 : SCode := .seq (.region c55_0 [0]) c55_2
def c55 : SCode := c55_3
theorem w55 : type_of% (And.intro (uR Try.prog c55_0.eq_1) (And.intro (uR Try.prog c55_1.eq_1) (And.intro (uC Try.prog c55_2.eq_1) (And.intro (uC Try.prog c55_3.eq_1) (uC Try.prog c55.eq_1))))) := (And.intro (uR Try.prog c55_0.eq_1) (And.intro (uR Try.prog c55_1.eq_1) (And.intro (uC Try.prog c55_2.eq_1) (And.intro (uC Try.prog c55_3.eq_1) (uC Try.prog c55.eq_1)))))
def v55 : List RV := [.t 2]
theorem s55 : slimF Try.prog Try.f55 = some (c55.bare, v55) := by kernel_rfl
/-! 13 loop.example/g00066/impl.Apply: parameters 2, live [0, 1], slots [0:a, 1:list, 2:a, 3:list, 6:at, 7:out, 8:_, 9:c] -/
def c13_0 : List SOper := [⟨some 4, .q (.mv (.c (.slice none 0 0))), none⟩, ⟨some 5, .q (.mv (.c (.bool false))), none⟩]
def c13_1 : List SOper := [⟨some 10, .q (.mv (.t 0)), none⟩, ⟨some 11, .e (.call 37 [(.t 10)]), none⟩, ⟨some 12, .q (.not (.t 11)), none⟩, ⟨some 13, .q (.mv (.t 12)), none⟩, ⟨some 14, .q (.mv (.t 1)), some (13, false)⟩, ⟨some 15, .e (.call 55 [(.t 14)]), some (13, false)⟩, ⟨some 16, .q (.not (.t 15)), some (13, false)⟩, ⟨some 17, .q (.pick (.t 13) (.c (.bool true)) (.t 16)), none⟩]
def c13_2 : List SOper := [⟨some 4, .q (.mv (.c (.slice none 0 0))), none⟩, ⟨some 5, .q (.mv (.c (.bool false))), none⟩]
def c13_3 : SCode := .seq (.region c13_2 [4, 5]) .ret
def c13_4 : SCode := .cond (.t 17) c13_3 .skip
def c13_5 : SCode := .seq (.region c13_1 [0, 1, 17]) c13_4
def c13_6 : List SOper := [⟨some 18, .a (.bsl 0 3 [] []), none⟩, ⟨some 6, .q (.mv (.c (.int .i64 0))), none⟩, ⟨some 7, .q (.mv (.t 18)), none⟩]
def c13_7 : List SOper := [⟨some 19, .q (.mv (.t 1)), none⟩, ⟨some 20, .q (.len (.t 19)), none⟩, ⟨some 21, .q (.mv (.c (.int .i64 0))), none⟩]
def c13_8 : List SOper := [⟨some 22, .q (.bin .lss (.t 21) (.t 20)), none⟩]
def c13_9 : SCode := .cond (.t 22) .skip (.exit 0)
def c13_10 : List SOper := [⟨some 23, .q (.ia 4 (.t 19) (.t 21)), none⟩, ⟨some 24, .q (.ldn 4 (.t 23)), none⟩, ⟨some 9, .a (.new [(.int .i64 0), (.int .i64 0), (.int .i64 0), (.int .i64 0)]), none⟩, ⟨none, .e (.st 4 (.t 9) (.t 24)), none⟩]
def c13_11 : List SOper := [⟨some 25, .q (.fa 0 (.t 9)), none⟩, ⟨some 26, .q (.ld (.t 25)), none⟩]
def c13_12 : List SOper := [⟨some 28, .q (.bin .eql (.t 26) (.c (.int .i64 3))), none⟩, ⟨some 27, .q (.mv (.t 28)), none⟩]
def c13_13 : List SOper := [⟨some 29, .q (.mv (.t 7)), none⟩, ⟨some 30, .q (.ldn 4 (.t 9)), none⟩, ⟨some 31, .e (.call 56 [(.t 30)]), none⟩, ⟨some 32, .a (.bsl 1 3 [(.int .i64 0), (.int .i64 0), (.int .i64 0)] [(0, 3, (.t 31))]), none⟩, ⟨some 33, .e (.app 24 3 (.t 29) (.t 32)), none⟩, ⟨some 7, .q (.mv (.t 33)), none⟩]
def c13_14 : SCode := .seq (.region c13_13 [0, 6, 7, 19, 20, 21]) (.exit 1)
def c13_15 : List SOper := [⟨some 35, .q (.bin .eql (.t 26) (.c (.int .i64 1))), none⟩, ⟨some 34, .q (.mv (.t 35)), none⟩]
def c13_16 : List SOper := [⟨some 36, .q (.mv (.t 7)), none⟩, ⟨some 37, .q (.mv (.t 0)), none⟩, ⟨some 38, .q (.mv (.t 6)), none⟩, ⟨some 39, .q (.mv (.t 6)), none⟩, ⟨some 40, .q (.fa 3 (.t 9)), none⟩, ⟨some 41, .q (.ld (.t 40)), none⟩, ⟨some 42, .q (.bin .add (.t 39) (.t 41)), none⟩, ⟨some 43, .e (.call 47 [(.t 37), (.t 38), (.t 42)]), none⟩, ⟨some 44, .e (.app 24 3 (.t 36) (.t 43)), none⟩, ⟨some 7, .q (.mv (.t 44)), none⟩]
def c13_17 : SCode := .cond (.t 34) (.region c13_16 [0, 6, 7, 9, 19, 20, 21]) .skip
def c13_18 : SCode := .seq (.region c13_15 [0, 6, 7, 9, 19, 20, 21, 34]) c13_17
def c13_19 : SCode := .cond (.t 27) c13_14 c13_18
def c13_20 : SCode := .seq (.region c13_12 [0, 6, 7, 9, 19, 20, 21, 26, 27]) c13_19
def c13_21 : SCode := .block 2 c13_20
def c13_22 : SCode := .seq (.region c13_11 [0, 6, 7, 9, 19, 20, 21, 26]) c13_21
def c13_23 : List SOper := [⟨some 45, .q (.mv (.t 6)), none⟩, ⟨some 46, .q (.fa 3 (.t 9)), none⟩, ⟨some 47, .q (.ld (.t 46)), none⟩, ⟨some 48, .q (.bin .add (.t 45) (.t 47)), none⟩, ⟨some 6, .q (.mv (.t 48)), none⟩]
def c13_24 : SCode := .seq c13_22 (.region c13_23 [0, 6, 7, 19, 20, 21])
def c13_25 : SCode := .seq (.region c13_10 [0, 6, 7, 9, 19, 20, 21]) c13_24
def c13_26 : SCode := .block 1 c13_25
def c13_27 : List SOper := [⟨some 49, .q (.bin .add (.t 21) (.c (.int .i64 1))), none⟩, ⟨some 21, .q (.mv (.t 49)), none⟩]
def c13_28 : SCode := .seq c13_26 (.region c13_27 [0, 6, 7, 19, 20, 21])
def c13_29 : SCode := .seq c13_9 c13_28
def c13_30 : SCode := .seq (.region c13_8 [0, 6, 7, 19, 20, 21, 22]) c13_29
def c13_31 : SCode := .loop c13_30
def c13_32 : SCode := .block 0 c13_31
def c13_33 : SCode := .seq (.region c13_7 [0, 6, 7, 19, 20, 21]) c13_32
def c13_34 : List SOper := [⟨some 50, .q (.mv (.t 6)), none⟩, ⟨some 51, .q (.mv (.t 0)), none⟩, ⟨some 52, .e (.call 39 [(.t 51)]), none⟩, ⟨some 53, .q (.bin .neq (.t 50) (.t 52)), none⟩]
def c13_35 : List SOper := [⟨some 4, .q (.mv (.c (.slice none 0 0))), none⟩, ⟨some 5, .q (.mv (.c (.bool false))), none⟩]
def c13_36 : SCode := .seq (.region c13_35 [4, 5]) .ret
def c13_37 : SCode := .cond (.t 53) c13_36 .skip
def c13_38 : SCode := .seq (.region c13_34 [7, 53]) c13_37
def c13_39 : List SOper := [⟨some 54, .q (.mv (.t 7)), none⟩, ⟨some 55, .a (.bsl 1 1 [(.slice none 0 0)] [(0, 1, (.t 54))]), none⟩, ⟨some 56, .e (.call 57 [(.t 55)]), none⟩, ⟨some 57, .q (.ext (.t 56) 0), none⟩, ⟨some 58, .q (.ext (.t 56) 1), none⟩, ⟨some 4, .q (.mv (.t 57)), none⟩, ⟨some 5, .q (.mv (.t 58)), none⟩]
def c13_40 : SCode := .seq (.region c13_39 [4, 5]) .ret
def c13_41 : SCode := .seq c13_38 c13_40
def c13_42 : SCode := .seq c13_33 c13_41
def c13_43 : SCode := .seq (.region c13_6 [0, 1, 6, 7]) c13_42
def c13_44 : SCode := .seq c13_5 c13_43
def c13_45 : SCode := .seq (.region c13_0 [0, 1]) c13_44
def c13 : SCode := c13_45
theorem w13 : type_of% (And.intro (uR Try.prog c13_0.eq_1) (And.intro (uR Try.prog c13_1.eq_1) (And.intro (uR Try.prog c13_2.eq_1) (And.intro (uC Try.prog c13_3.eq_1) (And.intro (uC Try.prog c13_4.eq_1) (And.intro (uC Try.prog c13_5.eq_1) (And.intro (uR Try.prog c13_6.eq_1) (And.intro (uR Try.prog c13_7.eq_1) (And.intro (uR Try.prog c13_8.eq_1) (And.intro (uC Try.prog c13_9.eq_1) (And.intro (uR Try.prog c13_10.eq_1) (And.intro (uR Try.prog c13_11.eq_1) (And.intro (uR Try.prog c13_12.eq_1) (And.intro (uR Try.prog c13_13.eq_1) (And.intro (uC Try.prog c13_14.eq_1) (And.intro (uR Try.prog c13_15.eq_1) (And.intro (uR Try.prog c13_16.eq_1) (And.intro (uC Try.prog c13_17.eq_1) (And.intro (uC Try.prog c13_18.eq_1) (And.intro (uC Try.prog c13_19.eq_1) (And.intro (uC Try.prog c13_20.eq_1) (And.intro (uC Try.prog c13_21.eq_1) (And.intro (uC Try.prog c13_22.eq_1) (And.intro (uR Try.prog c13_23.eq_1) (And.intro (uC Try.prog c13_24.eq_1) (And.intro (uC Try.prog c13_25.eq_1) (And.intro (uC Try.prog c13_26.eq_1) (And.intro (uR Try.prog c13_27.eq_1) (And.intro (uC Try.prog c13_28.eq_1) (And.intro (uC Try.prog c13_29.eq_1) (And.intro (uC Try.prog c13_30.eq_1) (And.intro (uC Try.prog c13_31.eq_1) (And.intro (uC Try.prog c13_32.eq_1) (And.intro (uC Try.prog c13_33.eq_1) (And.intro (uR Try.prog c13_34.eq_1) (And.intro (uR Try.prog c13_35.eq_1) (And.intro (uC Try.prog c13_36.eq_1) (And.intro (uC Try.prog c13_37.eq_1) (And.intro (uC Try.prog c13_38.eq_1) (And.intro (uR Try.prog c13_39.eq_1) (And.intro (uC Try.prog c13_40.eq_1) (And.intro (uC Try.prog c13_41.eq_1) (And.intro (uC Try.prog c13_42.eq_1) (And.intro (uC Try.prog c13_43.eq_1) (And.intro (uC Try.prog c13_44.eq_1) (And.intro (uC Try.prog c13_45.eq_1) (uC Try.prog c13.eq_1))))))))))))))))))))))))))))))))))))))))))))))) := (And.intro (uR Try.prog c13_0.eq_1) (And.intro (uR Try.prog c13_1.eq_1) (And.intro (uR Try.prog c13_2.eq_1) (And.intro (uC Try.prog c13_3.eq_1) (And.intro (uC Try.prog c13_4.eq_1) (And.intro (uC Try.prog c13_5.eq_1) (And.intro (uR Try.prog c13_6.eq_1) (And.intro (uR Try.prog c13_7.eq_1) (And.intro (uR Try.prog c13_8.eq_1) (And.intro (uC Try.prog c13_9.eq_1) (And.intro (uR Try.prog c13_10.eq_1) (And.intro (uR Try.prog c13_11.eq_1) (And.intro (uR Try.prog c13_12.eq_1) (And.intro (uR Try.prog c13_13.eq_1) (And.intro (uC Try.prog c13_14.eq_1) (And.intro (uR Try.prog c13_15.eq_1) (And.intro (uR Try.prog c13_16.eq_1) (And.intro (uC Try.prog c13_17.eq_1) (And.intro (uC Try.prog c13_18.eq_1) (And.intro (uC Try.prog c13_19.eq_1) (And.intro (uC Try.prog c13_20.eq_1) (And.intro (uC Try.prog c13_21.eq_1) (And.intro (uC Try.prog c13_22.eq_1) (And.intro (uR Try.prog c13_23.eq_1) (And.intro (uC Try.prog c13_24.eq_1) (And.intro (uC Try.prog c13_25.eq_1) (And.intro (uC Try.prog c13_26.eq_1) (And.intro (uR Try.prog c13_27.eq_1) (And.intro (uC Try.prog c13_28.eq_1) (And.intro (uC Try.prog c13_29.eq_1) (And.intro (uC Try.prog c13_30.eq_1) (And.intro (uC Try.prog c13_31.eq_1) (And.intro (uC Try.prog c13_32.eq_1) (And.intro (uC Try.prog c13_33.eq_1) (And.intro (uR Try.prog c13_34.eq_1) (And.intro (uR Try.prog c13_35.eq_1) (And.intro (uC Try.prog c13_36.eq_1) (And.intro (uC Try.prog c13_37.eq_1) (And.intro (uC Try.prog c13_38.eq_1) (And.intro (uR Try.prog c13_39.eq_1) (And.intro (uC Try.prog c13_40.eq_1) (And.intro (uC Try.prog c13_41.eq_1) (And.intro (uC Try.prog c13_42.eq_1) (And.intro (uC Try.prog c13_43.eq_1) (And.intro (uC Try.prog c13_44.eq_1) (And.intro (uC Try.prog c13_45.eq_1) (uC Try.prog c13.eq_1)))))))))))))))))))))))))))))))))))))))))))))))
def v13 : List RV := [.t 4, .t 5]
theorem s13 : slimF Try.prog Try.f13 = some (c13.bare, v13) := by kernel_rfl
/-! 46 loop.example/g00066/impl.adding: parameters 1, live [0], slots [0:clips, 1:clips, 3:out, 4:_, 5:c] -/
def c46_0 : List SOper := [⟨some 2, .q (.mv (.c (.slice none 0 0))), none⟩]
def c46_1 : List SOper := [⟨some 6, .a (.bsl 0 4 [] []), none⟩, ⟨some 3, .q (.mv (.t 6)), none⟩]
def c46_2 : List SOper := [⟨some 7, .q (.mv (.t 0)), none⟩, ⟨some 8, .q (.len (.t 7)), none⟩, ⟨some 9, .q (.mv (.c (.int .i64 0))), none⟩]
def c46_3 : List SOper := [⟨some 10, .q (.bin .lss (.t 9) (.t 8)), none⟩]
def c46_4 : SCode := .cond (.t 10) .skip (.exit 0)
def c46_5 : List SOper := [⟨some 11, .q (.ia 3 (.t 7) (.t 9)), none⟩, ⟨some 12, .q (.ldn 3 (.t 11)), none⟩, ⟨some 5, .a (.new [(.int .i64 0), (.int .i64 0), (.int .i64 0)]), none⟩, ⟨none, .e (.st 3 (.t 5) (.t 12)), none⟩]
def c46_6 : List SOper := [⟨some 13, .q (.mv (.t 3)), none⟩, ⟨some 14, .q (.fa 0 (.t 5)), none⟩, ⟨some 15, .q (.ld (.t 14)), none⟩, ⟨some 16, .q (.fa 1 (.t 5)), none⟩, ⟨some 17, .q (.ld (.t 16)), none⟩, ⟨some 18, .q (.fa 2 (.t 5)), none⟩, ⟨some 19, .q (.ld (.t 18)), none⟩, ⟨some 20, .q (.build [(.int .i64 0), (.int .i64 0), (.int .i64 0), (.int .i64 0)] [(0, 1, (.c (.int .i64 3))), (1, 1, (.t 15)), (2, 1, (.t 17)), (3, 1, (.t 19))]), none⟩, ⟨some 21, .a (.bsl 1 4 [(.int .i64 0), (.int .i64 0), (.int .i64 0), (.int .i64 0)] [(0, 4, (.t 20))]), none⟩, ⟨some 22, .e (.app 32 4 (.t 13) (.t 21)), none⟩, ⟨some 3, .q (.mv (.t 22)), none⟩]
def c46_7 : SCode := .seq (.region c46_5 [3, 5, 7, 8, 9]) (.region c46_6 [3, 7, 8, 9])
def c46_8 : SCode := .block 1 c46_7
def c46_9 : List SOper := [⟨some 23, .q (.bin .add (.t 9) (.c (.int .i64 1))), none⟩, ⟨some 9, .q (.mv (.t 23)), none⟩]
def c46_10 : SCode := .seq c46_8 (.region c46_9 [3, 7, 8, 9])
def c46_11 : SCode := .seq c46_4 c46_10
def c46_12 : SCode := .seq (.region c46_3 [3, 7, 8, 9, 10]) c46_11
def c46_13 : SCode := .loop c46_12
def c46_14 : SCode := .block 0 c46_13
def c46_15 : SCode := .seq (.region c46_2 [3, 7, 8, 9]) c46_14
def c46_16 : List SOper := [⟨some 24, .q (.mv (.t 3)), none⟩, ⟨some 2, .q (.mv (.t 24)), none⟩]
def c46_17 : SCode := .seq (.region c46_16 [2]) .ret
def c46_18 : SCode := .seq c46_15 c46_17
def c46_19 : SCode := .seq (.region c46_1 [0, 3]) c46_18
def c46_20 : SCode := .seq (.region c46_0 [0]) c46_19
def c46 : SCode := c46_20
theorem w46 : type_of% (And.intro (uR Try.prog c46_0.eq_1) (And.intro (uR Try.prog c46_1.eq_1) (And.intro (uR Try.prog c46_2.eq_1) (And.intro (uR Try.prog c46_3.eq_1) (And.intro (uC Try.prog c46_4.eq_1) (And.intro (uR Try.prog c46_5.eq_1) (And.intro (uR Try.prog c46_6.eq_1) (And.intro (uC Try.prog c46_7.eq_1) (And.intro (uC Try.prog c46_8.eq_1) (And.intro (uR Try.prog c46_9.eq_1) (And.intro (uC Try.prog c46_10.eq_1) (And.intro (uC Try.prog c46_11.eq_1) (And.intro (uC Try.prog c46_12.eq_1) (And.intro (uC Try.prog c46_13.eq_1) (And.intro (uC Try.prog c46_14.eq_1) (And.intro (uC Try.prog c46_15.eq_1) (And.intro (uR Try.prog c46_16.eq_1) (And.intro (uC Try.prog c46_17.eq_1) (And.intro (uC Try.prog c46_18.eq_1) (And.intro (uC Try.prog c46_19.eq_1) (And.intro (uC Try.prog c46_20.eq_1) (uC Try.prog c46.eq_1)))))))))))))))))))))) := (And.intro (uR Try.prog c46_0.eq_1) (And.intro (uR Try.prog c46_1.eq_1) (And.intro (uR Try.prog c46_2.eq_1) (And.intro (uR Try.prog c46_3.eq_1) (And.intro (uC Try.prog c46_4.eq_1) (And.intro (uR Try.prog c46_5.eq_1) (And.intro (uR Try.prog c46_6.eq_1) (And.intro (uC Try.prog c46_7.eq_1) (And.intro (uC Try.prog c46_8.eq_1) (And.intro (uR Try.prog c46_9.eq_1) (And.intro (uC Try.prog c46_10.eq_1) (And.intro (uC Try.prog c46_11.eq_1) (And.intro (uC Try.prog c46_12.eq_1) (And.intro (uC Try.prog c46_13.eq_1) (And.intro (uC Try.prog c46_14.eq_1) (And.intro (uC Try.prog c46_15.eq_1) (And.intro (uR Try.prog c46_16.eq_1) (And.intro (uC Try.prog c46_17.eq_1) (And.intro (uC Try.prog c46_18.eq_1) (And.intro (uC Try.prog c46_19.eq_1) (And.intro (uC Try.prog c46_20.eq_1) (uC Try.prog c46.eq_1))))))))))))))))))))))
def v46 : List RV := [.t 2]
theorem s46 : slimF Try.prog Try.f46 = some (c46.bare, v46) := by kernel_rfl
/-! 16 loop.example/g00066/impl.Turned: parameters 2, live [0, 1], slots [0:a, 1:list, 2:a, 3:list, 6:_, 7:ok, 8:at, 9:out, 10:_, 11:c] -/
def c16_0 : List SOper := [⟨some 4, .q (.mv (.c (.slice none 0 0))), none⟩, ⟨some 5, .q (.mv (.c (.bool false))), none⟩]
def c16_1 : List SOper := [⟨some 13, .q (.mv (.t 0)), none⟩, ⟨some 14, .q (.mv (.t 1)), none⟩, ⟨some 15, .e (.call 13 [(.t 13), (.t 14)]), none⟩, ⟨some 12, .q (.mv (.t 15)), none⟩, ⟨some 16, .q (.ext (.t 12) 0), none⟩, ⟨some 17, .q (.ext (.t 12) 1), none⟩, ⟨some 6, .q (.mv (.t 16)), none⟩, ⟨some 7, .q (.mv (.t 17)), none⟩]
def c16_2 : List SOper := [⟨some 18, .q (.mv (.t 7)), none⟩, ⟨some 19, .q (.not (.t 18)), none⟩]
def c16_3 : List SOper := [⟨some 4, .q (.mv (.c (.slice none 0 0))), none⟩, ⟨some 5, .q (.mv (.c (.bool false))), none⟩]
def c16_4 : SCode := .seq (.region c16_3 [4, 5]) .ret
def c16_5 : SCode := .cond (.t 19) c16_4 .skip
def c16_6 : SCode := .seq (.region c16_2 [0, 1, 19]) c16_5
def c16_7 : SCode := .seq (.region c16_1 [0, 1, 7]) c16_6
def c16_8 : List SOper := [⟨some 20, .a (.bsl 0 4 [] []), none⟩, ⟨some 8, .q (.mv (.c (.int .i64 0))), none⟩, ⟨some 9, .q (.mv (.t 20)), none⟩]
def c16_9 : List SOper := [⟨some 21, .q (.mv (.t 1)), none⟩, ⟨some 22, .q (.len (.t 21)), none⟩, ⟨some 23, .q (.mv (.c (.int .i64 0))), none⟩]
def c16_10 : List SOper := [⟨some 24, .q (.bin .lss (.t 23) (.t 22)), none⟩]
def c16_11 : SCode := .cond (.t 24) .skip (.exit 0)
def c16_12 : List SOper := [⟨some 25, .q (.ia 4 (.t 21) (.t 23)), none⟩, ⟨some 26, .q (.ldn 4 (.t 25)), none⟩, ⟨some 11, .a (.new [(.int .i64 0), (.int .i64 0), (.int .i64 0), (.int .i64 0)]), none⟩, ⟨none, .e (.st 4 (.t 11) (.t 26)), none⟩]
def c16_13 : List SOper := [⟨some 27, .q (.fa 0 (.t 11)), none⟩, ⟨some 28, .q (.ld (.t 27)), none⟩]
def c16_14 : List SOper := [⟨some 41, .q (.bin .eql (.t 28) (.c (.int .i64 3))), none⟩, ⟨some 40, .q (.mv (.t 41)), none⟩]
def c16_15 : List SOper := [⟨some 42, .q (.mv (.t 9)), none⟩, ⟨some 43, .q (.fa 3 (.t 11)), none⟩, ⟨some 44, .q (.ld (.t 43)), none⟩, ⟨some 45, .q (.build [(.int .i64 0), (.int .i64 0), (.int .i64 0), (.int .i64 0)] [(0, 1, (.c (.int .i64 2))), (3, 1, (.t 44))]), none⟩, ⟨some 46, .a (.bsl 1 4 [(.int .i64 0), (.int .i64 0), (.int .i64 0), (.int .i64 0)] [(0, 4, (.t 45))]), none⟩, ⟨some 47, .e (.app 32 4 (.t 42) (.t 46)), none⟩, ⟨some 9, .q (.mv (.t 47)), none⟩]
def c16_16 : SCode := .seq (.region c16_15 [0, 8, 9, 21, 22, 23]) (.exit 1)
def c16_17 : List SOper := [⟨some 49, .q (.bin .eql (.t 28) (.c (.int .i64 1))), none⟩, ⟨some 48, .q (.mv (.t 49)), none⟩]
def c16_18 : List SOper := [⟨some 50, .q (.mv (.t 9)), none⟩, ⟨some 51, .q (.ldn 4 (.t 11)), none⟩, ⟨some 52, .a (.bsl 1 4 [(.int .i64 0), (.int .i64 0), (.int .i64 0), (.int .i64 0)] [(0, 4, (.t 51))]), none⟩, ⟨some 53, .e (.app 32 4 (.t 50) (.t 52)), none⟩, ⟨some 9, .q (.mv (.t 53)), none⟩]
def c16_19 : List SOper := [⟨some 29, .q (.mv (.t 9)), none⟩, ⟨some 30, .q (.mv (.t 0)), none⟩, ⟨some 31, .q (.mv (.t 8)), none⟩, ⟨some 32, .q (.mv (.t 8)), none⟩, ⟨some 33, .q (.fa 3 (.t 11)), none⟩, ⟨some 34, .q (.ld (.t 33)), none⟩, ⟨some 35, .q (.bin .add (.t 32) (.t 34)), none⟩, ⟨some 36, .e (.call 47 [(.t 30), (.t 31), (.t 35)]), none⟩, ⟨some 37, .e (.call 38 [(.t 36)]), none⟩, ⟨some 38, .e (.call 46 [(.t 37)]), none⟩, ⟨some 39, .e (.app 32 4 (.t 29) (.t 38)), none⟩, ⟨some 9, .q (.mv (.t 39)), none⟩]
def c16_20 : SCode := .cond (.t 48) (.region c16_18 [0, 8, 9, 11, 21, 22, 23]) (.region c16_19 [0, 8, 9, 11, 21, 22, 23])
def c16_21 : SCode := .seq (.region c16_17 [0, 8, 9, 11, 21, 22, 23, 48]) c16_20
def c16_22 : SCode := .cond (.t 40) c16_16 c16_21
def c16_23 : SCode := .seq (.region c16_14 [0, 8, 9, 11, 21, 22, 23, 28, 40]) c16_22
def c16_24 : SCode := .block 2 c16_23
def c16_25 : SCode := .seq (.region c16_13 [0, 8, 9, 11, 21, 22, 23, 28]) c16_24
def c16_26 : List SOper := [⟨some 54, .q (.mv (.t 8)), none⟩, ⟨some 55, .q (.fa 3 (.t 11)), none⟩, ⟨some 56, .q (.ld (.t 55)), none⟩, ⟨some 57, .q (.bin .add (.t 54) (.t 56)), none⟩, ⟨some 8, .q (.mv (.t 57)), none⟩]
def c16_27 : SCode := .seq c16_25 (.region c16_26 [0, 8, 9, 21, 22, 23])
def c16_28 : SCode := .seq (.region c16_12 [0, 8, 9, 11, 21, 22, 23]) c16_27
def c16_29 : SCode := .block 1 c16_28
def c16_30 : List SOper := [⟨some 58, .q (.bin .add (.t 23) (.c (.int .i64 1))), none⟩, ⟨some 23, .q (.mv (.t 58)), none⟩]
def c16_31 : SCode := .seq c16_29 (.region c16_30 [0, 8, 9, 21, 22, 23])
def c16_32 : SCode := .seq c16_11 c16_31
def c16_33 : SCode := .seq (.region c16_10 [0, 8, 9, 21, 22, 23, 24]) c16_32
def c16_34 : SCode := .loop c16_33
def c16_35 : SCode := .block 0 c16_34
def c16_36 : SCode := .seq (.region c16_9 [0, 8, 9, 21, 22, 23]) c16_35
def c16_37 : List SOper := [⟨some 59, .q (.mv (.t 9)), none⟩, ⟨some 4, .q (.mv (.t 59)), none⟩, ⟨some 5, .q (.mv (.c (.bool true))), none⟩]
def c16_38 : SCode := .seq (.region c16_37 [4, 5]) .ret
def c16_39 : SCode := .seq c16_36 c16_38
def c16_40 : SCode := .seq (.region c16_8 [0, 1, 8, 9]) c16_39
def c16_41 : SCode := .seq c16_7 c16_40
def c16_42 : SCode := .seq (.region c16_0 [0, 1]) c16_41
def c16 : SCode := c16_42
theorem w16 : type_of% (And.intro (uR Try.prog c16_0.eq_1) (And.intro (uR Try.prog c16_1.eq_1) (And.intro (uR Try.prog c16_2.eq_1) (And.intro (uR Try.prog c16_3.eq_1) (And.intro (uC Try.prog c16_4.eq_1) (And.intro (uC Try.prog c16_5.eq_1) (And.intro (uC Try.prog c16_6.eq_1) (And.intro (uC Try.prog c16_7.eq_1) (And.intro (uR Try.prog c16_8.eq_1) (And.intro (uR Try.prog c16_9.eq_1) (And.intro (uR Try.prog c16_10.eq_1) (And.intro (uC Try.prog c16_11.eq_1) (And.intro (uR Try.prog c16_12.eq_1) (And.intro (uR Try.prog c16_13.eq_1) (And.intro (uR Try.prog c16_14.eq_1) (And.intro (uR Try.prog c16_15.eq_1) (And.intro (uC Try.prog c16_16.eq_1) (And.intro (uR Try.prog c16_17.eq_1) (And.intro (uR Try.prog c16_18.eq_1) (And.intro (uR Try.prog c16_19.eq_1) (And.intro (uC Try.prog c16_20.eq_1) (And.intro (uC Try.prog c16_21.eq_1) (And.intro (uC Try.prog c16_22.eq_1) (And.intro (uC Try.prog c16_23.eq_1) (And.intro (uC Try.prog c16_24.eq_1) (And.intro (uC Try.prog c16_25.eq_1) (And.intro (uR Try.prog c16_26.eq_1) (And.intro (uC Try.prog c16_27.eq_1) (And.intro (uC Try.prog c16_28.eq_1) (And.intro (uC Try.prog c16_29.eq_1) (And.intro (uR Try.prog c16_30.eq_1) (And.intro (uC Try.prog c16_31.eq_1) (And.intro (uC Try.prog c16_32.eq_1) (And.intro (uC Try.prog c16_33.eq_1) (And.intro (uC Try.prog c16_34.eq_1) (And.intro (uC Try.prog c16_35.eq_1) (And.intro (uC Try.prog c16_36.eq_1) (And.intro (uR Try.prog c16_37.eq_1) (And.intro (uC Try.prog c16_38.eq_1) (And.intro (uC Try.prog c16_39.eq_1) (And.intro (uC Try.prog c16_40.eq_1) (And.intro (uC Try.prog c16_41.eq_1) (And.intro (uC Try.prog c16_42.eq_1) (uC Try.prog c16.eq_1)))))))))))))))))))))))))))))))))))))))))))) := (And.intro (uR Try.prog c16_0.eq_1) (And.intro (uR Try.prog c16_1.eq_1) (And.intro (uR Try.prog c16_2.eq_1) (And.intro (uR Try.prog c16_3.eq_1) (And.intro (uC Try.prog c16_4.eq_1) (And.intro (uC Try.prog c16_5.eq_1) (And.intro (uC Try.prog c16_6.eq_1) (And.intro (uC Try.prog c16_7.eq_1) (And.intro (uR Try.prog c16_8.eq_1) (And.intro (uR Try.prog c16_9.eq_1) (And.intro (uR Try.prog c16_10.eq_1) (And.intro (uC Try.prog c16_11.eq_1) (And.intro (uR Try.prog c16_12.eq_1) (And.intro (uR Try.prog c16_13.eq_1) (And.intro (uR Try.prog c16_14.eq_1) (And.intro (uR Try.prog c16_15.eq_1) (And.intro (uC Try.prog c16_16.eq_1) (And.intro (uR Try.prog c16_17.eq_1) (And.intro (uR Try.prog c16_18.eq_1) (And.intro (uR Try.prog c16_19.eq_1) (And.intro (uC Try.prog c16_20.eq_1) (And.intro (uC Try.prog c16_21.eq_1) (And.intro (uC Try.prog c16_22.eq_1) (And.intro (uC Try.prog c16_23.eq_1) (And.intro (uC Try.prog c16_24.eq_1) (And.intro (uC Try.prog c16_25.eq_1) (And.intro (uR Try.prog c16_26.eq_1) (And.intro (uC Try.prog c16_27.eq_1) (And.intro (uC Try.prog c16_28.eq_1) (And.intro (uC Try.prog c16_29.eq_1) (And.intro (uR Try.prog c16_30.eq_1) (And.intro (uC Try.prog c16_31.eq_1) (And.intro (uC Try.prog c16_32.eq_1) (And.intro (uC Try.prog c16_33.eq_1) (And.intro (uC Try.prog c16_34.eq_1) (And.intro (uC Try.prog c16_35.eq_1) (And.intro (uC Try.prog c16_36.eq_1) (And.intro (uR Try.prog c16_37.eq_1) (And.intro (uC Try.prog c16_38.eq_1) (And.intro (uC Try.prog c16_39.eq_1) (And.intro (uC Try.prog c16_40.eq_1) (And.intro (uC Try.prog c16_41.eq_1) (And.intro (uC Try.prog c16_42.eq_1) (uC Try.prog c16.eq_1))))))))))))))))))))))))))))))))))))))))))))
def v16 : List RV := [.t 4, .t 5]
theorem s16 : slimF Try.prog Try.f16 = some (c16.bare, v16) := by kernel_rfl

theorem clip_ok (h : Heap) (c : Change) : ACall Try.prog 56 [.agg (encChange c).toArray] h fun r h' => Ext h h' ∧ r = .agg (encClip (clipOf c)).toArray := by
  obtain ⟨a, b, d, e⟩ := c
  refine ACall.of Try.func56 s56 (of_decide_eq_true rfl) ?_
  simp (maxSteps := 4000000) (disch := omega) only [ah, am, Nat.reduceEqDiff, reduceCtorEq, Nat.reduceAdd, Nat.reduceLeDiff, Nat.reduceMul, Nat.reduceLT, if_true, if_false, true_and, and_true, and_self, Nat.reduceBEq, QOp.loads, boxO, bslO, buildO, cutL, fillV, putL, w56, v56, encChange]
  exact ⟨Ext.more _ _, rfl⟩
theorem chOk_ok (h : Heap) (c : Change) : ACall Try.prog 86 [.agg (encChange c).toArray] h fun r h' => Ext h h' ∧ r = .bool (decide (changeOk c)) := by
  have cl := clip_ok (h.more [encChange c]) c
  obtain ⟨a, b, d, e⟩ := c
  simp only [encChange, clipOf] at cl
  refine ACall.of Try.func86 s86 (of_decide_eq_true rfl) ?_
  by_cases k3 : a = 3
  · have k3' : decide (a = 3) = true := decide_eq_true k3
    simp (maxSteps := 4000000) (disch := omega) only [ah, am, Nat.reduceEqDiff, reduceCtorEq, Nat.reduceAdd, Nat.reduceLeDiff, Nat.reduceMul, Nat.reduceLT, if_true, if_false, true_and, and_true, and_self, Nat.reduceBEq, QOp.loads, boxO, bslO, buildO, cutL, fillV, putL, w86, v86, encChange, k3']
    refine stepC.of cl ?_
    rintro _ H1 ⟨e1, rfl⟩
    simp (maxSteps := 4000000) (disch := omega) only [ah, am, Nat.reduceEqDiff, reduceCtorEq, Nat.reduceAdd, Nat.reduceLeDiff, Nat.reduceMul, Nat.reduceLT, if_true, if_false, true_and, and_true, and_self, Nat.reduceBEq, QOp.loads, boxO, bslO, buildO, cutL, fillV, putL, w86, v86]
    refine stepC.of (ok_ok _ ⟨b, d, e⟩) ?_
    rintro _ H2 ⟨e2, rfl⟩
    simp (maxSteps := 4000000) (disch := omega) only [ah, am, Nat.reduceEqDiff, reduceCtorEq, Nat.reduceAdd, Nat.reduceLeDiff, Nat.reduceMul, Nat.reduceLT, if_true, if_false, true_and, and_true, and_self, Nat.reduceBEq, QOp.loads, boxO, bslO, buildO, cutL, fillV, putL, w86, v86]
    refine ⟨((Ext.more _ _).trans e1).trans e2, ?_⟩
    refine bool_dec ?_
    simp only [decide_eq_true_eq, changeOk, clipOf]
    exact ⟨fun q => .inl ⟨k3, q⟩, fun q => by rcases q with q | q; exact q.2; omega⟩
  have k3' : decide (a = 3) = false := decide_eq_false k3
  simp (maxSteps := 4000000) (disch := omega) only [ah, am, Nat.reduceEqDiff, reduceCtorEq, Nat.reduceAdd, Nat.reduceLeDiff, Nat.reduceMul, Nat.reduceLT, if_true, if_false, true_and, and_true, and_self, Nat.reduceBEq, QOp.loads, boxO, bslO, buildO, cutL, fillV, putL, w86, v86, encChange, k3']
  (repeat' first
    | (refine stepC.of (in_ok _ _ _ _) ?_; rintro _ _ ⟨rfl, rfl⟩; simp (maxSteps := 4000000) (disch := omega) only [ah, am, Nat.reduceEqDiff, reduceCtorEq, Nat.reduceAdd, Nat.reduceLeDiff, Nat.reduceMul, Nat.reduceLT, if_true, if_false, true_and, and_true, and_self, Nat.reduceBEq, QOp.loads, boxO, bslO, buildO, cutL, fillV, putL, i64w, w86, v86, k3'])
    | (refine stepG.cases (fun _ hp => ?_) (fun _ hp => ?_) <;> simp (maxSteps := 4000000) (disch := omega) only [hp, ah, am, Nat.reduceEqDiff, reduceCtorEq, Nat.reduceAdd, Nat.reduceLeDiff, Nat.reduceMul, Nat.reduceLT, if_true, if_false, true_and, and_true, and_self, Nat.reduceBEq, QOp.loads, boxO, bslO, buildO, cutL, fillV, putL, i64w, w86, v86, k3'])
    | (refine stepI.cases (fun _ hp => ?_) (fun _ hp => ?_) <;> simp (maxSteps := 4000000) (disch := omega) only [hp, ah, am, Nat.reduceEqDiff, reduceCtorEq, Nat.reduceAdd, Nat.reduceLeDiff, Nat.reduceMul, Nat.reduceLT, if_true, if_false, true_and, and_true, and_self, Nat.reduceBEq, QOp.loads, boxO, bslO, buildO, cutL, fillV, putL, i64w, w86, v86, k3']))
  all_goals (refine ⟨Ext.more _ _, ?_⟩; refine bool_dec ?_; try simp only [decide_eq_true_eq, Bool.false_eq_true, false_and, and_false, true_and, and_true, false_iff, iff_false, true_iff, iff_true, not_false_eq_true, false_or, or_false, true_or, or_true, changeOk, clipOf]; first | done | omega | (refine Iff.intro (fun hq => ?_) (fun hq => ?_) <;> omega))
theorem changesOk1_ok (h : Heap) (k : Change) : ACall Try.prog 85 [.agg (encChange k).toArray] h fun r h' => Ext h h' ∧ r = .bool (!decide (changeOk k)) := by
  have g := chOk_ok (h.more [encChange k]) k
  obtain ⟨a, b, c, d⟩ := k
  refine ACall.of Try.func85 s85 (of_decide_eq_true rfl) ?_
  simp (maxSteps := 4000000) (disch := omega) only [ah, am, Nat.reduceEqDiff, reduceCtorEq, Nat.reduceAdd, Nat.reduceLeDiff, Nat.reduceMul, Nat.reduceLT, if_true, if_false, true_and, and_true, and_self, Nat.reduceBEq, QOp.loads, boxO, bslO, buildO, cutL, fillV, putL, w85, v85, encChange]
  refine stepC.of g ?_
  rintro _ H ⟨e, rfl⟩
  simp (maxSteps := 4000000) (disch := omega) only [ah, am, Nat.reduceEqDiff, reduceCtorEq, Nat.reduceAdd, Nat.reduceLeDiff, Nat.reduceMul, Nat.reduceLT, if_true, if_false, true_and, and_true, and_self, Nat.reduceBEq, QOp.loads, boxO, bslO, buildO, cutL, fillV, putL, w85, v85]
  exact (Ext.more h _).trans e
theorem IndexFuncC_ok (h : Heap) (v : Value) (l : List Change) (n : Nat) (cap : Array Value) (p : Change → Bool) (s : SlT h encChange 4 v l) (hl : l.length ≤ 1100000)
    (hf : ∃ fn, Try.prog.funcs[n]? = some fn ∧ fn.body.isSome = true ∧ fn.name ≠ "runtime.NumGoroutine")
    (H : ∀ h' k, Ext h h' → k ∈ l → ACall Try.prog n ([.agg (encChange k).toArray] ++ cap.toList) h' fun r h2 => Ext h' h2 ∧ r = .bool (p k)) :
    ACall Try.prog 93 [v, .func (.func n) #[] cap] h fun r h' => Ext h h' ∧ r = .int .i64 (match l.findIdx? p with | some j => (j : Int) | none => -1) := by
  obtain ⟨fn, hf1, hf2, hf3⟩ := hf
  refine ACall.of Try.func93 s93 (of_decide_eq_true rfl) ?_
  have R := s.rulesN
  simp (maxSteps := 4000000) (disch := omega) only [ah, am, Nat.reduceEqDiff, reduceCtorEq, Nat.reduceAdd, Nat.reduceLeDiff, Nat.reduceMul, Nat.reduceLT, if_true, if_false, true_and, and_true, and_self, Nat.reduceBEq, QOp.loads, boxO, bslO, buildO, cutL, fillV, putL, w93, v93, R]
  refine SW_loop_up (fun i E H => E = [(0, v), (1, .func (.func n) #[] cap), (7, .int .i64 l.length), (8, .int .i64 i)] ∧ Ext h H ∧ ∀ j (hj : j < l.length), j < i → p l[j] = false) l.length 0 (by omega)
    ⟨rfl, Ext.refl h, fun j _ hj => absurd hj (by omega)⟩ ?_
  rintro i E H1 hi ⟨rfl, e, F⟩
  have R := (s.ext e).rulesN
  have W : IntKind.i64.wrap ((i : Int) + 1) = ((i + 1 : Nat) : Int) := i64e (by omega) (by omega)
  simp (maxSteps := 4000000) (disch := omega) only [ah, am, Nat.reduceEqDiff, reduceCtorEq, Nat.reduceAdd, Nat.reduceLeDiff, Nat.reduceMul, Nat.reduceLT, if_true, if_false, true_and, and_true, and_self, Nat.reduceBEq, QOp.loads, boxO, bslO, buildO, cutL, fillV, putL, w93, v93, R]
  refine stepI.split (fun hp => ?_) (fun hp => ?_)
  · have hi' : i < l.length := by omega
    simp (maxSteps := 4000000) (disch := omega) only [ah, am, Nat.reduceEqDiff, reduceCtorEq, Nat.reduceAdd, Nat.reduceLeDiff, Nat.reduceMul, Nat.reduceLT, if_true, if_false, true_and, and_true, and_self, Nat.reduceBEq, QOp.loads, boxO, bslO, buildO, cutL, fillV, putL, w93, v93, R, nilV_func]
    refine stepV.of hf1 hf2 hf3 (H H1 _ e (List.getElem_mem hi')) ?_
    rintro _ H2 ⟨e2, rfl⟩
    simp (maxSteps := 4000000) (disch := omega) only [ah, am, Nat.reduceEqDiff, reduceCtorEq, Nat.reduceAdd, Nat.reduceLeDiff, Nat.reduceMul, Nat.reduceLT, if_true, if_false, true_and, and_true, and_self, Nat.reduceBEq, QOp.loads, boxO, bslO, buildO, cutL, fillV, putL, w93, v93, W]
    refine stepI.splitB (fun hk => ?_) (fun hk => ?_)
    · simp (maxSteps := 4000000) (disch := omega) only [ah, am, Nat.reduceEqDiff, reduceCtorEq, Nat.reduceAdd, Nat.reduceLeDiff, Nat.reduceMul, Nat.reduceLT, if_true, if_false, true_and, and_true, and_self, Nat.reduceBEq, QOp.loads, boxO, bslO, buildO, cutL, fillV, putL, w93, v93, W]
      refine ⟨e.trans e2, ?_⟩
      have : l.findIdx? p = some i := by
        rw [List.findIdx?_eq_some_iff_getElem]
        exact ⟨hi', hk, fun j hj => by rw [F j (by omega) hj]; decide⟩
      rw [this]
    · simp (maxSteps := 4000000) (disch := omega) only [ah, am, Nat.reduceEqDiff, reduceCtorEq, Nat.reduceAdd, Nat.reduceLeDiff, Nat.reduceMul, Nat.reduceLT, if_true, if_false, true_and, and_true, and_self, Nat.reduceBEq, QOp.loads, boxO, bslO, buildO, cutL, fillV, putL, w93, v93, W]
      refine ⟨hi', e.trans e2, fun j hj hj2 => ?_⟩
      by_cases hji : j = i
      · subst hji; exact hk
      · exact F j hj (by omega)
  · simp (maxSteps := 4000000) (disch := omega) only [ah, am, Nat.reduceEqDiff, reduceCtorEq, Nat.reduceAdd, Nat.reduceLeDiff, Nat.reduceMul, Nat.reduceLT, if_true, if_false, true_and, and_true, and_self, Nat.reduceBEq, QOp.loads, boxO, bslO, buildO, cutL, fillV, putL, w93, v93, R, W]
    obtain rfl : i = l.length := by omega
    refine ⟨e, ?_⟩
    have : l.findIdx? p = none := by
      rw [List.findIdx?_eq_none_iff]
      intro x hx
      obtain ⟨j, hj, rfl⟩ := List.getElem_of_mem hx
      exact F j hj hj
    rw [this]
theorem ContainsFuncC_ok (h : Heap) (v : Value) (l : List Change) (n : Nat) (cap : Array Value) (p : Change → Bool) (s : SlT h encChange 4 v l) (hl : l.length ≤ 1100000)
    (hf : ∃ fn, Try.prog.funcs[n]? = some fn ∧ fn.body.isSome = true ∧ fn.name ≠ "runtime.NumGoroutine")
    (H : ∀ h' k, Ext h h' → k ∈ l → ACall Try.prog n ([.agg (encChange k).toArray] ++ cap.toList) h' fun r h2 => Ext h' h2 ∧ r = .bool (p k)) :
    ACall Try.prog 84 [v, .func (.func n) #[] cap] h fun r h' => Ext h h' ∧ r = .bool (l.any p) := by
  refine ACall.of Try.func84 s84 (of_decide_eq_true rfl) ?_
  simp (maxSteps := 4000000) (disch := omega) only [ah, am, Nat.reduceEqDiff, reduceCtorEq, Nat.reduceAdd, Nat.reduceLeDiff, Nat.reduceMul, Nat.reduceLT, if_true, if_false, true_and, and_true, and_self, Nat.reduceBEq, QOp.loads, boxO, bslO, buildO, cutL, fillV, putL, w84, v84]
  refine stepC.of (IndexFuncC_ok h v l n cap p s hl hf H) ?_
  rintro _ H1 ⟨e, rfl⟩
  simp (maxSteps := 4000000) (disch := omega) only [ah, am, Nat.reduceEqDiff, reduceCtorEq, Nat.reduceAdd, Nat.reduceLeDiff, Nat.reduceMul, Nat.reduceLT, if_true, if_false, true_and, and_true, and_self, Nat.reduceBEq, QOp.loads, boxO, bslO, buildO, cutL, fillV, putL, w84, v84]
  refine ⟨e, ?_⟩
  cases hq : l.findIdx? p with
  | none =>
    rw [List.findIdx?_eq_none_iff] at hq
    have : l.any p = false := by rw [List.any_eq_false]; intro x hx; rw [hq x hx]; decide
    rw [this]; rfl
  | some j =>
    rw [List.findIdx?_eq_some_iff_getElem] at hq
    obtain ⟨hj, hp, _⟩ := hq
    have : l.any p = true := List.any_eq_true.mpr ⟨_, List.getElem_mem hj, hp⟩
    rw [this]
    congr 1
theorem changesOk_ok (h : Heap) (v : Value) (l : List Change) (s : SlT h encChange 4 v l) (hl : l.length ≤ 1100000) : ACall Try.prog 55 [v] h fun r h' => Ext h h' ∧ r = .bool (decide (changesOk l)) := by
  refine ACall.of Try.func55 s55 (of_decide_eq_true rfl) ?_
  have R := s.rulesN
  simp (maxSteps := 4000000) (disch := omega) only [ah, am, Nat.reduceEqDiff, reduceCtorEq, Nat.reduceAdd, Nat.reduceLeDiff, Nat.reduceMul, Nat.reduceLT, if_true, if_false, true_and, and_true, and_self, Nat.reduceBEq, QOp.loads, boxO, bslO, buildO, cutL, fillV, putL, w55, v55, R]
  refine stepG.cases (fun h0 hp => ?_) (fun h0 hp => ?_)
  · simp (maxSteps := 4000000) (disch := omega) only [ah, am, Nat.reduceEqDiff, reduceCtorEq, Nat.reduceAdd, Nat.reduceLeDiff, Nat.reduceMul, Nat.reduceLT, if_true, if_false, true_and, and_true, and_self, Nat.reduceBEq, QOp.loads, boxO, bslO, buildO, cutL, fillV, putL, w55, v55, hp, R]
    refine stepC.of (ContainsFuncC_ok h v l 85 #[] (fun k => !decide (changeOk k)) s hl ⟨_, Try.func85, rfl, by decide⟩ (fun h' k _ _ => changesOk1_ok h' k)) ?_
    rintro _ H1 ⟨e, rfl⟩
    simp (maxSteps := 4000000) (disch := omega) only [ah, am, Nat.reduceEqDiff, reduceCtorEq, Nat.reduceAdd, Nat.reduceLeDiff, Nat.reduceMul, Nat.reduceLT, if_true, if_false, true_and, and_true, and_self, Nat.reduceBEq, QOp.loads, boxO, bslO, buildO, cutL, fillV, putL, w55, v55, hp, R]
    refine ⟨e, ?_⟩
    refine bool_dec ?_
    simp only [decide_eq_true_eq, changesOk, Bool.not_eq_true', List.any_eq_false, decide_eq_false_iff_not, Classical.not_not]
    exact ⟨fun q => ⟨by omega, q⟩, fun q => q.2⟩
  · simp (maxSteps := 4000000) (disch := omega) only [ah, am, Nat.reduceEqDiff, reduceCtorEq, Nat.reduceAdd, Nat.reduceLeDiff, Nat.reduceMul, Nat.reduceLT, if_true, if_false, true_and, and_true, and_self, Nat.reduceBEq, QOp.loads, boxO, bslO, buildO, cutL, fillV, putL, w55, v55, hp, R]
    rw [show decide (changesOk l) = false from decide_eq_false fun q => by have := q.1; omega]
    exact ⟨Ext.refl h, rfl⟩
theorem applyL_mem (a : List Clip) (ha : ∀ k ∈ a, clipOk k) (l : List Change) (hl : ∀ c ∈ l, changeOk c) : ∀ k ∈ (applyL a l).1, clipOk k := by
  have key : ∀ (l : List Change) (s : List Clip × Int), (∀ c ∈ l, changeOk c) → (∀ k ∈ s.1, clipOk k) → ∀ k ∈ (l.foldl (applyStep a) s).1, clipOk k := by
    intro l
    induction l with
    | nil => intro s _ h; exact h
    | cons c l ih =>
      intro s h hs
      refine ih _ (fun x hx => h x (by simp [hx])) ?_
      have hc := h c (by simp)
      intro k hk
      unfold applyStep at hk
      split at hk
      · rename_i h3
        simp only [List.mem_append, List.mem_singleton] at hk
        rcases hk with hk | rfl
        · exact hs k hk
        · simp only [changeOk] at hc; rcases hc with q | q
          · exact q.2
          · omega
      · split at hk
        · simp only [List.mem_append] at hk
          rcases hk with hk | hk
          · exact hs k hk
          · exact partS_mem _ _ _ _ ha k hk
        · exact hs k hk
  exact key l ([], 0) hl (by simp)
theorem Apply_ok (h : Heap) (v w : Value) (l : List Clip) (m : List Change) (s : SlT h encClip 3 v l) (sw : SlT h encChange 4 w m) (hl : l.length ≤ 1100000) (hm : m.length ≤ 1100000) :
    ACall Try.prog 13 [v, w] h fun r h' => Pair h h' r (applyF l m) := by
  refine ACall.of Try.func13 s13 (of_decide_eq_true rfl) ?_
  simp (maxSteps := 4000000) (disch := omega) only [ah, am, Nat.reduceEqDiff, reduceCtorEq, Nat.reduceAdd, Nat.reduceLeDiff, Nat.reduceMul, Nat.reduceLT, if_true, if_false, true_and, and_true, and_self, Nat.reduceBEq, QOp.loads, boxO, bslO, buildO, cutL, fillV, putL, w13, v13]
  refine stepC.of (implTrackOk_ok _ _ _ s (by omega)) ?_
  rintro _ H1 ⟨e1, rfl⟩
  by_cases ht : trackOk l
  rotate_left
  · have ht' : decide (trackOk l) = false := decide_eq_false ht
    simp (maxSteps := 4000000) (disch := omega) only [ah, am, Nat.reduceEqDiff, reduceCtorEq, Nat.reduceAdd, Nat.reduceLeDiff, Nat.reduceMul, Nat.reduceLT, if_true, if_false, true_and, and_true, and_self, Nat.reduceBEq, QOp.loads, boxO, bslO, buildO, cutL, fillV, putL, w13, v13, ht']
    rw [show applyF l m = ([], false) from if_neg fun q => ht q.1]
    exact ⟨_, rfl, (Fresh.nil _ encClip_len (by omega)).mono e1⟩
  have ht' : decide (trackOk l) = true := decide_eq_true ht
  simp (maxSteps := 4000000) (disch := omega) only [ah, am, Nat.reduceEqDiff, reduceCtorEq, Nat.reduceAdd, Nat.reduceLeDiff, Nat.reduceMul, Nat.reduceLT, if_true, if_false, true_and, and_true, and_self, Nat.reduceBEq, QOp.loads, boxO, bslO, buildO, cutL, fillV, putL, w13, v13, ht']
  refine stepC.of (changesOk_ok _ _ _ (sw.ext e1) (by omega)) ?_
  rintro _ H2 ⟨e2, rfl⟩
  by_cases hc : changesOk m
  rotate_left
  · have hc' : decide (changesOk m) = false := decide_eq_false hc
    simp (maxSteps := 4000000) (disch := omega) only [ah, am, Nat.reduceEqDiff, reduceCtorEq, Nat.reduceAdd, Nat.reduceLeDiff, Nat.reduceMul, Nat.reduceLT, if_true, if_false, true_and, and_true, and_self, Nat.reduceBEq, QOp.loads, boxO, bslO, buildO, cutL, fillV, putL, w13, v13, ht', hc']
    rw [show applyF l m = ([], false) from if_neg fun q => hc q.2.1]
    exact ⟨_, rfl, (Fresh.nil _ encClip_len (by omega)).mono (e1.trans e2)⟩
  have hc' : decide (changesOk m) = true := decide_eq_true hc
  have hlen := ht.1; have hok := ht.2.1; have hsum := ht.2.2; have hmlen := hc.1; have hmok := hc.2
  have R := (sw.ext (e1.trans e2)).rulesN
  have R := (sw.ext ((e1.trans e2).trans (Ext.more H2 [[]]))).rulesN
  simp (maxSteps := 4000000) (disch := omega) only [ah, am, Nat.reduceEqDiff, reduceCtorEq, Nat.reduceAdd, Nat.reduceLeDiff, Nat.reduceMul, Nat.reduceLT, if_true, if_false, true_and, and_true, and_self, Nat.reduceBEq, QOp.loads, boxO, bslO, buildO, cutL, fillV, putL, w13, v13, ht', hc', R]
  refine SW_loop_up (fun i E H => ∃ ov, E = [(0, v), (6, .int .i64 (applyL l (m.take i)).2), (7, ov), (19, w), (20, .int .i64 m.length), (21, .int .i64 i)] ∧ Fresh H2 H encClip 3 ov (applyL l (m.take i)).1) m.length 0 (by omega)
    ⟨.slice (some ⟨H2.size, 0, none⟩) 0 3, by simp [applyL], by simpa [applyL] using Fresh.new0 H2 encClip_len (by omega)⟩ ?_
  rintro i E H hi ⟨ov, rfl, F⟩
  have E0 := (e1.trans e2).trans F.1
  have R := (sw.ext E0).rulesN
  have W : IntKind.i64.wrap ((i : Int) + 1) = ((i + 1 : Nat) : Int) := i64e (by omega) (by omega)
  have B := applyL_bound l (m.take i) (fun c hc => hmok c (List.mem_of_mem_take hc)) hlen
  have hti : (m.take i).length ≤ 300 := by simp; omega
  simp (maxSteps := 4000000) (disch := omega) only [ah, am, Nat.reduceEqDiff, reduceCtorEq, Nat.reduceAdd, Nat.reduceLeDiff, Nat.reduceMul, Nat.reduceLT, if_true, if_false, true_and, and_true, and_self, Nat.reduceBEq, QOp.loads, boxO, bslO, buildO, cutL, fillV, putL, w13, v13, R]
  refine stepI.split (fun hp => ?_) (fun hp => ?_)
  · have hi' : i < m.length := by omega
    have J := applyL_take l m i hi'
    have cl := changeOk_len (hmok _ (List.getElem_mem hi'))
    have hk3 : m[i].kind = 3 ∨ m[i].kind = 1 ∨ m[i].kind = 2 := by have := hmok _ (List.getElem_mem hi'); simp only [changeOk] at this; omega
    rw [J]
    generalize applyL l (m.take i) = st at *
    obtain ⟨out, pos⟩ := st
    simp only at B F ⊢
    have F0 : Fk [] H2 (H.more [encChange m[i]]) encClip 3 ov out [(H.size, encChange m[i])] := (Fk.of F).more [encChange m[i]]
    by_cases h3 : m[i].kind = 3
    · have h3' : decide (m[i].kind = 3) = true := decide_eq_true h3
      have cc := clip_ok (H.more [encChange m[i]]) m[i]
      simp only [encChange] at cc
      simp (maxSteps := 4000000) (disch := omega) only [ah, am, Nat.reduceEqDiff, reduceCtorEq, Nat.reduceAdd, Nat.reduceLeDiff, Nat.reduceMul, Nat.reduceLT, if_true, if_false, true_and, and_true, and_self, Nat.reduceBEq, QOp.loads, boxO, bslO, buildO, cutL, fillV, putL, w13, v13, R, encChange, h3']
      refine stepC.of cc ?_
      rintro _ H3 ⟨e3, rfl⟩
      obtain ⟨v2, H4, ea, F3⟩ := (F0.step e3).app1 [] (clipOf m[i]) (bytes := 24) (by omega)
      simp only [boxesAt, List.cons_append, List.append_nil, List.nil_append, List.length_nil, List.length_cons, Nat.zero_add, Nat.add_zero, encClip, clipOf] at ea
      simp (maxSteps := 4000000) (disch := omega) only [ah, am, Nat.reduceEqDiff, reduceCtorEq, Nat.reduceAdd, Nat.reduceLeDiff, Nat.reduceMul, Nat.reduceLT, if_true, if_false, true_and, and_true, and_self, Nat.reduceBEq, QOp.loads, boxO, bslO, buildO, cutL, fillV, putL, w13, v13, R, encClip, clipOf, h3', ea, W]
      refine ⟨hi', v2, by simp only [applyStep, if_pos h3], ?_⟩
      simp only [applyStep, if_pos h3]; exact F3.fresh
    · have h3' : decide (m[i].kind = 3) = false := decide_eq_false h3
      have W2 : IntKind.i64.wrap (pos + m[i].len) = pos + m[i].len := i64w (by omega)
      by_cases h1 : m[i].kind = 1
      · have h1' : decide (m[i].kind = 1) = true := decide_eq_true h1
        have pa := part_ok (H.more [encChange m[i]]) v l pos (pos + m[i].len) (s.ext (E0.trans (Ext.more H _))) hlen hok (by omega) (by omega) hsum
        have Q1 : partI pos (pos + m[i].len) l = partS pos (pos + m[i].len) 0 l := by have := part_eq pos (pos + m[i].len) l 0 hok; simpa using this
        rw [Q1] at pa
        simp only [encChange] at pa
        simp (maxSteps := 4000000) (disch := omega) only [ah, am, Nat.reduceEqDiff, reduceCtorEq, Nat.reduceAdd, Nat.reduceLeDiff, Nat.reduceMul, Nat.reduceLT, if_true, if_false, true_and, and_true, and_self, Nat.reduceBEq, QOp.loads, boxO, bslO, buildO, cutL, fillV, putL, w13, v13, R, encChange, h3', h1', W2]
        refine stepC.of pa ?_
        intro pv H3 F3
        have F4 := F0.step F3.1
        have X4 := F4.ld (i := H.size) (cs := encChange m[i]) (by simp)
        have pl := partS_length pos (pos + m[i].len) l 0
        obtain ⟨v2, H5, ea, F5⟩ := F4.app F3.slt (bytes := 24) (by omega)
        have X5 := F5.ld (i := H.size) (cs := encChange m[i]) (by simp)
        simp only [encChange] at X4 X5
        simp (maxSteps := 4000000) (disch := omega) only [ah, am, Nat.reduceEqDiff, reduceCtorEq, Nat.reduceAdd, Nat.reduceLeDiff, Nat.reduceMul, Nat.reduceLT, if_true, if_false, true_and, and_true, and_self, Nat.reduceBEq, QOp.loads, boxO, bslO, buildO, cutL, fillV, putL, w13, v13, X4, X5, ea, W, W2]
        refine ⟨hi', v2, by simp only [applyStep, if_neg h3, if_pos h1], ?_⟩
        simp only [applyStep, if_neg h3, if_pos h1]; exact F5.fresh
      · have h1' : decide (m[i].kind = 1) = false := decide_eq_false h1
        simp (maxSteps := 4000000) (disch := omega) only [ah, am, Nat.reduceEqDiff, reduceCtorEq, Nat.reduceAdd, Nat.reduceLeDiff, Nat.reduceMul, Nat.reduceLT, if_true, if_false, true_and, and_true, and_self, Nat.reduceBEq, QOp.loads, boxO, bslO, buildO, cutL, fillV, putL, w13, v13, R, encChange, h3', h1', W, W2]
        refine ⟨hi', ov, by simp only [applyStep, if_neg h3, if_neg h1], ?_⟩
        simp only [applyStep, if_neg h3, if_neg h1]; exact F0.fresh
  · simp (maxSteps := 4000000) (disch := omega) only [ah, am, Nat.reduceEqDiff, reduceCtorEq, Nat.reduceAdd, Nat.reduceLeDiff, Nat.reduceMul, Nat.reduceLT, if_true, if_false, true_and, and_true, and_self, Nat.reduceBEq, QOp.loads, boxO, bslO, buildO, cutL, fillV, putL, w13, v13, R, W]
    obtain rfl : i = m.length := by omega
    rw [List.take_length] at F B ⊢
    have A := applyL_mem l hok m hmok
    refine stepC.of (long_ok _ _ _ (s.ext E0) hlen hok) ?_
    rintro _ H3 ⟨e3, rfl⟩
    by_cases hs : (applyL l m).2 = sumLen l
    · have hs' : decide ((applyL l m).2 = sumLen l) = true := decide_eq_true hs
      have S1 := F.slt.ext e3
      have o1 := oneB_sl S1
      have c1 := cells_sl S1
      simp (maxSteps := 4000000) (disch := omega) only [ah, am, Nat.reduceEqDiff, reduceCtorEq, Nat.reduceAdd, Nat.reduceLeDiff, Nat.reduceMul, Nat.reduceLT, if_true, if_false, true_and, and_true, and_self, Nat.reduceBEq, QOp.loads, boxO, bslO, buildO, cutL, fillV, putL, w13, v13, hs', o1, c1, size_mk]
      refine stepC.of (edited_ok _ _ _ (Rows.one S1) (by simp) (by simp; omega) (fun k hk => (A k (by simpa using hk)).in)) ?_
      rintro _ H4 ⟨rv, rfl, F4⟩
      simp (maxSteps := 4000000) (disch := omega) only [ah, am, Nat.reduceEqDiff, reduceCtorEq, Nat.reduceAdd, Nat.reduceLeDiff, Nat.reduceMul, Nat.reduceLT, if_true, if_false, true_and, and_true, and_self, Nat.reduceBEq, QOp.loads, boxO, bslO, buildO, cutL, fillV, putL, w13, v13]
      rw [show applyF l m = editF (applyL l m).1 from if_pos ⟨ht, hc, hs⟩]
      rw [show [(applyL l m).1].flatten = (applyL l m).1 by simp, editFI _ A] at F4 ⊢
      exact ⟨rv, rfl, F4.mono ((E0.trans e3).trans (Ext.more _ _))⟩
    · have hs' : decide ((applyL l m).2 = sumLen l) = false := decide_eq_false hs
      simp (maxSteps := 4000000) (disch := omega) only [ah, am, Nat.reduceEqDiff, reduceCtorEq, Nat.reduceAdd, Nat.reduceLeDiff, Nat.reduceMul, Nat.reduceLT, if_true, if_false, true_and, and_true, and_self, Nat.reduceBEq, QOp.loads, boxO, bslO, buildO, cutL, fillV, putL, w13, v13, hs']
      rw [show applyF l m = ([], false) from if_neg fun q => hs q.2.2]
      exact ⟨_, rfl, (Fresh.nil _ encClip_len (by omega)).mono (E0.trans e3)⟩
theorem adding_ok (h : Heap) (v : Value) (l : List Clip) (s : SlT h encClip 3 v l) (hl : l.length ≤ 1100000) : ACall Try.prog 46 [v] h fun r h' => Fresh h h' encChange 4 r (l.map addOf) := by
  refine ACall.of Try.func46 s46 (of_decide_eq_true rfl) ?_
  have R := (s.ext (Ext.more h [[]])).rulesN
  simp (maxSteps := 4000000) (disch := omega) only [ah, am, Nat.reduceEqDiff, reduceCtorEq, Nat.reduceAdd, Nat.reduceLeDiff, Nat.reduceMul, Nat.reduceLT, if_true, if_false, true_and, and_true, and_self, Nat.reduceBEq, QOp.loads, boxO, bslO, buildO, cutL, fillV, putL, w46, v46, R]
  refine SW_loop_up (fun i E H => ∃ ov, E = [(3, ov), (7, v), (8, .int .i64 l.length), (9, .int .i64 i)] ∧ Fresh h H encChange 4 ov ((l.take i).map addOf)) l.length 0 (by omega)
    ⟨.slice (some ⟨h.size, 0, none⟩) 0 4, by simp, by simpa using Fresh.new0 h encChange_len (by omega)⟩ ?_
  rintro i E H hi ⟨ov, rfl, F⟩
  have R := (s.ext F.1).rulesN
  have W : IntKind.i64.wrap ((i : Int) + 1) = ((i + 1 : Nat) : Int) := i64e (by omega) (by omega)
  simp (maxSteps := 4000000) (disch := omega) only [ah, am, Nat.reduceEqDiff, reduceCtorEq, Nat.reduceAdd, Nat.reduceLeDiff, Nat.reduceMul, Nat.reduceLT, if_true, if_false, true_and, and_true, and_self, Nat.reduceBEq, QOp.loads, boxO, bslO, buildO, cutL, fillV, putL, w46, v46, R]
  refine stepI.split (fun hp => ?_) (fun hp => ?_)
  · have hi' : i < l.length := by omega
    obtain ⟨v2, H3, ea, F3⟩ := (Fk.of (X := []) F).app1 [encClip l[i]] (addOf l[i]) (bytes := 32) (by simp only [List.length_map, List.length_take]; omega)
    simp only [boxesAt, List.cons_append, List.append_nil, List.nil_append, List.length_nil, List.length_cons, Nat.zero_add, Nat.add_zero, encClip, encChange, addOf] at ea
    simp (maxSteps := 4000000) (disch := omega) only [ah, am, Nat.reduceEqDiff, reduceCtorEq, Nat.reduceAdd, Nat.reduceLeDiff, Nat.reduceMul, Nat.reduceLT, if_true, if_false, true_and, and_true, and_self, Nat.reduceBEq, QOp.loads, boxO, bslO, buildO, cutL, fillV, putL, w46, v46, R, encClip, ea, W]
    refine ⟨hi', v2, rfl, ?_⟩
    rw [List.take_succ_eq_append_getElem hi', List.map_append]
    exact F3.fresh
  · simp (maxSteps := 4000000) (disch := omega) only [ah, am, Nat.reduceEqDiff, reduceCtorEq, Nat.reduceAdd, Nat.reduceLeDiff, Nat.reduceMul, Nat.reduceLT, if_true, if_false, true_and, and_true, and_self, Nat.reduceBEq, QOp.loads, boxO, bslO, buildO, cutL, fillV, putL, w46, v46, R, W]
    obtain rfl : i = l.length := by omega
    rw [List.take_length] at F
    exact F
theorem Turned_ok (h : Heap) (v w : Value) (l : List Clip) (m : List Change) (s : SlT h encClip 3 v l) (sw : SlT h encChange 4 w m) (hl : l.length ≤ 1100000) (hm : m.length ≤ 1100000) :
    ACall Try.prog 16 [v, w] h fun r h' => PairC h h' r (turnedF l m) := by
  refine ACall.of Try.func16 s16 (of_decide_eq_true rfl) ?_
  simp (maxSteps := 4000000) (disch := omega) only [ah, am, Nat.reduceEqDiff, reduceCtorEq, Nat.reduceAdd, Nat.reduceLeDiff, Nat.reduceMul, Nat.reduceLT, if_true, if_false, true_and, and_true, and_self, Nat.reduceBEq, QOp.loads, boxO, bslO, buildO, cutL, fillV, putL, w16, v16]
  refine stepC.of (Apply_ok _ _ _ _ _ s sw hl hm) ?_
  rintro _ H1 ⟨av, rfl, FA⟩
  have e1 := FA.1
  simp (maxSteps := 4000000) (disch := omega) only [ah, am, Nat.reduceEqDiff, reduceCtorEq, Nat.reduceAdd, Nat.reduceLeDiff, Nat.reduceMul, Nat.reduceLT, if_true, if_false, true_and, and_true, and_self, Nat.reduceBEq, QOp.loads, boxO, bslO, buildO, cutL, fillV, putL, w16, v16]
  by_cases hk' : (applyF l m).2 = true
  rotate_left
  · have hk2 : (applyF l m).2 = false := by simpa using hk'
    simp (maxSteps := 4000000) (disch := omega) only [ah, am, Nat.reduceEqDiff, reduceCtorEq, Nat.reduceAdd, Nat.reduceLeDiff, Nat.reduceMul, Nat.reduceLT, if_true, if_false, true_and, and_true, and_self, Nat.reduceBEq, QOp.loads, boxO, bslO, buildO, cutL, fillV, putL, w16, v16, hk2]
    rw [show turnedF l m = ([], false) from if_neg hk']
    exact ⟨_, rfl, (Fresh.nil _ encChange_len (by omega)).mono e1⟩
  obtain ⟨ht, hc, hs⟩ := applyF_true hk'
  have hlen := ht.1; have hok := ht.2.1; have hsum := ht.2.2; have hmlen := hc.1; have hmok := hc.2
  have hT : turnedF l m = ((turnedL l m).1, true) := if_pos hk'
  rw [hT]
  have R := (sw.ext (e1.trans (Ext.more H1 [[]]))).rulesN
  simp (maxSteps := 4000000) (disch := omega) only [ah, am, Nat.reduceEqDiff, reduceCtorEq, Nat.reduceAdd, Nat.reduceLeDiff, Nat.reduceMul, Nat.reduceLT, if_true, if_false, true_and, and_true, and_self, Nat.reduceBEq, QOp.loads, boxO, bslO, buildO, cutL, fillV, putL, w16, v16, hk', R]
  refine SW_loop_up (fun i E H => ∃ ov, E = [(0, v), (8, .int .i64 (turnedL l (m.take i)).2), (9, ov), (21, w), (22, .int .i64 m.length), (23, .int .i64 i)] ∧ Fresh H1 H encChange 4 ov (turnedL l (m.take i)).1) m.length 0 (by omega)
    ⟨.slice (some ⟨H1.size, 0, none⟩) 0 4, by simp [turnedL], by simpa [turnedL] using Fresh.new0 H1 encChange_len (by omega)⟩ ?_
  rintro i E H hi ⟨ov, rfl, F⟩
  have E0 := e1.trans F.1
  have R := (sw.ext E0).rulesN
  have W : IntKind.i64.wrap ((i : Int) + 1) = ((i + 1 : Nat) : Int) := i64e (by omega) (by omega)
  have B := turnedL_bound l (m.take i) (fun c hc => hmok c (List.mem_of_mem_take hc)) hlen
  have hti : (m.take i).length ≤ 300 := by simp; omega
  simp (maxSteps := 4000000) (disch := omega) only [ah, am, Nat.reduceEqDiff, reduceCtorEq, Nat.reduceAdd, Nat.reduceLeDiff, Nat.reduceMul, Nat.reduceLT, if_true, if_false, true_and, and_true, and_self, Nat.reduceBEq, QOp.loads, boxO, bslO, buildO, cutL, fillV, putL, w16, v16, R]
  refine stepI.split (fun hp => ?_) (fun hp => ?_)
  · have hi' : i < m.length := by omega
    have J := turnedL_take l m i hi'
    have cl := changeOk_len (hmok _ (List.getElem_mem hi'))
    have hk3 : m[i].kind = 3 ∨ m[i].kind = 1 ∨ m[i].kind = 2 := by have := hmok _ (List.getElem_mem hi'); simp only [changeOk] at this; omega
    rw [J]
    generalize turnedL l (m.take i) = st at *
    obtain ⟨out, pos⟩ := st
    simp only at B F ⊢
    have F0 : Fk [] H1 (H.more [encChange m[i]]) encChange 4 ov out [(H.size, encChange m[i])] := (Fk.of F).more [encChange m[i]]
    by_cases h3 : m[i].kind = 3
    · have h3' : decide (m[i].kind = 3) = true := decide_eq_true h3
      obtain ⟨v2, H3, ea, F3⟩ := (Fk.of (X := []) F).app1 [encChange m[i]] ⟨2, 0, 0, m[i].len⟩ (bytes := 32) (by omega)
      simp only [boxesAt, List.cons_append, List.append_nil, List.nil_append, List.length_nil, List.length_cons, Nat.zero_add, Nat.add_zero, encChange] at ea
      simp (maxSteps := 4000000) (disch := omega) only [ah, am, Nat.reduceEqDiff, reduceCtorEq, Nat.reduceAdd, Nat.reduceLeDiff, Nat.reduceMul, Nat.reduceLT, if_true, if_false, true_and, and_true, and_self, Nat.reduceBEq, QOp.loads, boxO, bslO, buildO, cutL, fillV, putL, w16, v16, R, encChange, h3', ea, W]
      refine ⟨hi', v2, by simp only [turnedStep, if_pos h3], ?_⟩
      simp only [turnedStep, if_pos h3]; exact F3.fresh
    have h3' : decide (m[i].kind = 3) = false := decide_eq_false h3
    have W2 : IntKind.i64.wrap (pos + m[i].len) = pos + m[i].len := i64w (by omega)
    by_cases h1 : m[i].kind = 1
    · have h1' : decide (m[i].kind = 1) = true := decide_eq_true h1
      obtain ⟨v2, H3, ea, F3⟩ := (Fk.of (X := []) F).app1 [encChange m[i]] m[i] (bytes := 32) (by omega)
      have X3 := F3.ld (i := H.size) (cs := encChange m[i]) (by simp [boxesAt])
      simp only [boxesAt, List.cons_append, List.append_nil, List.nil_append, List.length_nil, List.length_cons, Nat.zero_add, Nat.add_zero, encChange] at ea X3
      simp (maxSteps := 4000000) (disch := omega) only [ah, am, Nat.reduceEqDiff, reduceCtorEq, Nat.reduceAdd, Nat.reduceLeDiff, Nat.reduceMul, Nat.reduceLT, if_true, if_false, true_and, and_true, and_self, Nat.reduceBEq, QOp.loads, boxO, bslO, buildO, cutL, fillV, putL, w16, v16, R, encChange, h3', h1', ea, W, W2, X3]
      refine ⟨hi', v2, by simp only [turnedStep, if_neg h3, if_pos h1], ?_⟩
      simp only [turnedStep, if_neg h3, if_pos h1]; exact F3.fresh
    have h1' : decide (m[i].kind = 1) = false := decide_eq_false h1
    have pa := part_ok (H.more [encChange m[i]]) v l pos (pos + m[i].len) (s.ext (E0.trans (Ext.more H _))) hlen hok (by omega) (by omega) hsum
    have Q1 : partI pos (pos + m[i].len) l = partS pos (pos + m[i].len) 0 l := by have := part_eq pos (pos + m[i].len) l 0 hok; simpa using this
    rw [Q1] at pa
    simp only [encChange] at pa
    simp (maxSteps := 4000000) (disch := omega) only [ah, am, Nat.reduceEqDiff, reduceCtorEq, Nat.reduceAdd, Nat.reduceLeDiff, Nat.reduceMul, Nat.reduceLT, if_true, if_false, true_and, and_true, and_self, Nat.reduceBEq, QOp.loads, boxO, bslO, buildO, cutL, fillV, putL, w16, v16, R, encChange, h1', h3', W2]
    refine stepC.of pa ?_
    intro pv H3 F3
    have hpl := partS_length pos (pos + m[i].len) l 0
    simp (maxSteps := 4000000) (disch := omega) only [ah, am, Nat.reduceEqDiff, reduceCtorEq, Nat.reduceAdd, Nat.reduceLeDiff, Nat.reduceMul, Nat.reduceLT, if_true, if_false, true_and, and_true, and_self, Nat.reduceBEq, QOp.loads, boxO, bslO, buildO, cutL, fillV, putL, w16, v16]
    refine stepC.of (joined_ok _ _ _ F3.slt (by omega) (fun k hk => (partS_mem _ _ _ _ hok k hk).in)) ?_
    intro jv H4 F4
    have hjl := join_length (partS pos (pos + m[i].len) 0 l)
    simp (maxSteps := 4000000) (disch := omega) only [ah, am, Nat.reduceEqDiff, reduceCtorEq, Nat.reduceAdd, Nat.reduceLeDiff, Nat.reduceMul, Nat.reduceLT, if_true, if_false, true_and, and_true, and_self, Nat.reduceBEq, QOp.loads, boxO, bslO, buildO, cutL, fillV, putL, w16, v16]
    refine stepC.of (adding_ok _ _ _ F4.slt (by omega)) ?_
    intro av2 H5 F5
    have F6 := F0.step ((F3.1.trans F4.1).trans F5.1)
    have X6 := F6.ld (i := H.size) (cs := encChange m[i]) (by simp)
    obtain ⟨v2, H7, ea, F7⟩ := F6.app F5.slt (bytes := 32) (by simp only [List.length_map]; omega)
    have X7 := F7.ld (i := H.size) (cs := encChange m[i]) (by simp)
    simp only [encChange] at X6 X7
    simp (maxSteps := 4000000) (disch := omega) only [ah, am, Nat.reduceEqDiff, reduceCtorEq, Nat.reduceAdd, Nat.reduceLeDiff, Nat.reduceMul, Nat.reduceLT, if_true, if_false, true_and, and_true, and_self, Nat.reduceBEq, QOp.loads, boxO, bslO, buildO, cutL, fillV, putL, w16, v16, X6, X7, ea, W, W2]
    refine ⟨hi', v2, by simp only [turnedStep, if_neg h3, if_neg h1], ?_⟩
    simp only [turnedStep, if_neg h3, if_neg h1]; exact F7.fresh
  · simp (maxSteps := 4000000) (disch := omega) only [ah, am, Nat.reduceEqDiff, reduceCtorEq, Nat.reduceAdd, Nat.reduceLeDiff, Nat.reduceMul, Nat.reduceLT, if_true, if_false, true_and, and_true, and_self, Nat.reduceBEq, QOp.loads, boxO, bslO, buildO, cutL, fillV, putL, w16, v16, R, W]
    obtain rfl : i = m.length := by omega
    rw [List.take_length] at F B
    exact ⟨_, rfl, F.mono e1⟩
end Go.Proofs.Ytbnppofkpgfhnaa
