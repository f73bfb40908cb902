import Derived.Test.YtbanblghepekdaaI5
namespace Go.Proofs.Ytbanblghepekdaa
open Go Go.Ah
set_option linter.unusedSimpArgs false
set_option linter.unusedVariables false
set_option maxRecDepth 10000
set_option maxHeartbeats 4000000
/-! 50 loop.example/g00066/impl.turnedClip: parameters 4, live [0, 1, 2, 3], slots [0:track, 1:i, 2:n, 3:turn, 4:track, 5:i, 6:n, 7:turn, 10:out] -/
def c50_0 : List SOper := [⟨some 8, .q (.mv (.c (.slice none 0 0))), none⟩, ⟨some 9, .q (.mv (.c (.bool false))), none⟩]
def c50_1 : List SOper := [⟨some 11, .q (.mv (.t 0)), none⟩, ⟨some 12, .e (.call 54 [(.t 11)]), none⟩, ⟨some 13, .q (.not (.t 12)), none⟩, ⟨some 14, .q (.mv (.t 13)), none⟩, ⟨some 15, .q (.mv (.t 1)), some (14, false)⟩, ⟨some 16, .q (.mv (.t 0)), some (14, false)⟩, ⟨some 17, .q (.len (.t 16)), some (14, false)⟩, ⟨some 18, .q (.bin .sub (.t 17) (.c (.int .i64 1))), some (14, false)⟩, ⟨some 19, .e (.call 55 [(.t 15), (.c (.int .i64 0)), (.t 18)]), some (14, false)⟩, ⟨some 20, .q (.not (.t 19)), some (14, false)⟩, ⟨some 21, .q (.pick (.t 14) (.c (.bool true)) (.t 20)), none⟩, ⟨some 22, .q (.mv (.t 21)), none⟩, ⟨some 23, .q (.mv (.t 0)), some (22, false)⟩, ⟨some 24, .q (.mv (.t 1)), some (22, false)⟩, ⟨some 25, .q (.ia 3 (.t 23) (.t 24)), some (22, false)⟩, ⟨some 26, .q (.ldn 3 (.t 25)), some (22, false)⟩, ⟨some 27, .e (.call 66 [(.t 26)]), some (22, false)⟩, ⟨some 28, .q (.pick (.t 22) (.c (.bool true)) (.t 27)), none⟩, ⟨some 29, .q (.mv (.t 28)), none⟩, ⟨some 30, .q (.mv (.t 2)), some (29, false)⟩, ⟨some 31, .e (.call 55 [(.t 30), (.c (.int .i64 (-10000000))), (.c (.int .i64 10000000))]), some (29, false)⟩, ⟨some 32, .q (.not (.t 31)), some (29, false)⟩, ⟨some 33, .q (.pick (.t 29) (.c (.bool true)) (.t 32)), none⟩]
def c50_2 : List SOper := [⟨some 8, .q (.mv (.c (.slice none 0 0))), none⟩, ⟨some 9, .q (.mv (.c (.bool false))), none⟩]
def c50_3 : SCode := .seq (.region c50_2 [8, 9]) .ret
def c50_4 : SCode := .cond (.t 33) c50_3 .skip
def c50_5 : SCode := .seq (.region c50_1 [0, 1, 3, 33]) c50_4
def c50_6 : List SOper := [⟨some 34, .q (.mv (.t 0)), none⟩, ⟨some 35, .e (.call 56 [(.t 34)]), none⟩, ⟨some 10, .q (.mv (.t 35)), none⟩]
def c50_7 : List SOper := [⟨some 36, .q (.mv (.t 10)), none⟩, ⟨some 37, .q (.mv (.t 1)), none⟩, ⟨some 38, .q (.mv (.t 3)), none⟩, ⟨some 39, .q (.mv (.t 10)), none⟩, ⟨some 40, .q (.mv (.t 1)), none⟩, ⟨some 41, .q (.ia 3 (.t 39) (.t 40)), none⟩, ⟨some 42, .q (.ldn 3 (.t 41)), none⟩, ⟨some 43, .e (.callv (.t 38) [(.t 42)]), none⟩, ⟨some 44, .q (.ia 3 (.t 36) (.t 37)), none⟩, ⟨none, .e (.st 3 (.t 44) (.t 43)), none⟩]
def c50_8 : List SOper := [⟨some 45, .q (.mv (.t 10)), none⟩, ⟨some 46, .q (.mv (.t 1)), none⟩, ⟨some 47, .q (.ia 3 (.t 45) (.t 46)), none⟩, ⟨some 48, .q (.ldn 3 (.t 47)), none⟩, ⟨some 49, .e (.call 57 [(.t 48)]), none⟩, ⟨some 50, .q (.not (.t 49)), none⟩]
def c50_9 : List SOper := [⟨some 8, .q (.mv (.c (.slice none 0 0))), none⟩, ⟨some 9, .q (.mv (.c (.bool false))), none⟩]
def c50_10 : SCode := .seq (.region c50_9 [8, 9]) .ret
def c50_11 : SCode := .cond (.t 50) c50_10 .skip
def c50_12 : SCode := .seq (.region c50_8 [10, 50]) c50_11
def c50_13 : List SOper := [⟨some 51, .q (.mv (.t 10)), none⟩, ⟨some 52, .a (.bsl 1 1 [(.slice none 0 0)] [(0, 1, (.t 51))]), none⟩, ⟨some 53, .e (.call 58 [(.t 52)]), none⟩, ⟨some 54, .q (.ext (.t 53) 0), none⟩, ⟨some 55, .q (.ext (.t 53) 1), none⟩, ⟨some 8, .q (.mv (.t 54)), none⟩, ⟨some 9, .q (.mv (.t 55)), none⟩]
def c50_14 : SCode := .seq (.region c50_13 [8, 9]) .ret
def c50_15 : SCode := .seq c50_12 c50_14
def c50_16 : SCode := .seq (.region c50_7 [1, 10]) c50_15
def c50_17 : SCode := .seq (.region c50_6 [1, 3, 10]) c50_16
def c50_18 : SCode := .seq c50_5 c50_17
def c50_19 : SCode := .seq (.region c50_0 [0, 1, 2, 3]) c50_18
def c50 : SCode := c50_19
theorem w50 : type_of% (And.intro (uR Try.prog c50_0.eq_1) (And.intro (uR Try.prog c50_1.eq_1) (And.intro (uR Try.prog c50_2.eq_1) (And.intro (uC Try.prog c50_3.eq_1) (And.intro (uC Try.prog c50_4.eq_1) (And.intro (uC Try.prog c50_5.eq_1) (And.intro (uR Try.prog c50_6.eq_1) (And.intro (uR Try.prog c50_7.eq_1) (And.intro (uR Try.prog c50_8.eq_1) (And.intro (uR Try.prog c50_9.eq_1) (And.intro (uC Try.prog c50_10.eq_1) (And.intro (uC Try.prog c50_11.eq_1) (And.intro (uC Try.prog c50_12.eq_1) (And.intro (uR Try.prog c50_13.eq_1) (And.intro (uC Try.prog c50_14.eq_1) (And.intro (uC Try.prog c50_15.eq_1) (And.intro (uC Try.prog c50_16.eq_1) (And.intro (uC Try.prog c50_17.eq_1) (And.intro (uC Try.prog c50_18.eq_1) (And.intro (uC Try.prog c50_19.eq_1) (uC Try.prog c50.eq_1))))))))))))))))))))) := (And.intro (uR Try.prog c50_0.eq_1) (And.intro (uR Try.prog c50_1.eq_1) (And.intro (uR Try.prog c50_2.eq_1) (And.intro (uC Try.prog c50_3.eq_1) (And.intro (uC Try.prog c50_4.eq_1) (And.intro (uC Try.prog c50_5.eq_1) (And.intro (uR Try.prog c50_6.eq_1) (And.intro (uR Try.prog c50_7.eq_1) (And.intro (uR Try.prog c50_8.eq_1) (And.intro (uR Try.prog c50_9.eq_1) (And.intro (uC Try.prog c50_10.eq_1) (And.intro (uC Try.prog c50_11.eq_1) (And.intro (uC Try.prog c50_12.eq_1) (And.intro (uR Try.prog c50_13.eq_1) (And.intro (uC Try.prog c50_14.eq_1) (And.intro (uC Try.prog c50_15.eq_1) (And.intro (uC Try.prog c50_16.eq_1) (And.intro (uC Try.prog c50_17.eq_1) (And.intro (uC Try.prog c50_18.eq_1) (And.intro (uC Try.prog c50_19.eq_1) (uC Try.prog c50.eq_1)))))))))))))))))))))
def v50 : List RV := [.t 8, .t 9]
theorem s50 : slimF Try.prog Try.f50 = some (c50.bare, v50) := by kernel_rfl
/-! 17 loop.example/g00066/impl.Slip: parameters 3, live [0, 1, 2], slots [0:track, 1:i, 2:n, 3:track, 4:i, 5:n] -/
def c17_0 : List SOper := [⟨some 5, .a (.box (.t 2)), none⟩, ⟨some 6, .q (.mv (.c (.slice none 0 0))), none⟩, ⟨some 7, .q (.mv (.c (.bool false))), none⟩]
def c17_1 : List SOper := [⟨some 8, .q (.mv (.t 0)), none⟩, ⟨some 9, .q (.mv (.t 1)), none⟩, ⟨some 10, .q (.ld (.t 5)), none⟩, ⟨some 11, .q (.mkf 51 [(.t 5)]), none⟩, ⟨some 12, .e (.call 50 [(.t 8), (.t 9), (.t 10), (.t 11)]), none⟩, ⟨some 13, .q (.ext (.t 12) 0), none⟩, ⟨some 14, .q (.ext (.t 12) 1), none⟩, ⟨some 6, .q (.mv (.t 13)), none⟩, ⟨some 7, .q (.mv (.t 14)), none⟩]
def c17_2 : SCode := .seq (.region c17_1 [6, 7]) .ret
def c17_3 : SCode := .seq (.region c17_0 [0, 1, 5]) c17_2
def c17 : SCode := c17_3
theorem w17 : type_of% (And.intro (uR Try.prog c17_0.eq_1) (And.intro (uR Try.prog c17_1.eq_1) (And.intro (uC Try.prog c17_2.eq_1) (And.intro (uC Try.prog c17_3.eq_1) (uC Try.prog c17.eq_1))))) := (And.intro (uR Try.prog c17_0.eq_1) (And.intro (uR Try.prog c17_1.eq_1) (And.intro (uC Try.prog c17_2.eq_1) (And.intro (uC Try.prog c17_3.eq_1) (uC Try.prog c17.eq_1)))))
def v17 : List RV := [.t 6, .t 7]
theorem s17 : slimF Try.prog Try.f17 = some (c17.bare, v17) := by kernel_rfl
/-! 51 loop.example/g00066/impl.Slip$1: parameters 1, live [0, 1], slots [0:c, 2:c] -/
def c51_0 : List SOper := [⟨some 2, .a (.box (.t 0)), none⟩, ⟨some 3, .a (.new [(.int .i64 0), (.int .i64 0), (.int .i64 0)]), none⟩]
def c51_1 : List SOper := [⟨some 4, .q (.fa 1 (.t 2)), none⟩, ⟨some 5, .q (.ld (.t 4)), none⟩, ⟨some 6, .q (.ld (.t 1)), none⟩, ⟨some 7, .q (.bin .add (.t 5) (.t 6)), none⟩, ⟨some 8, .q (.fa 1 (.t 2)), none⟩, ⟨none, .e (.st 1 (.t 8) (.t 7)), none⟩]
def c51_2 : List SOper := [⟨some 9, .q (.ldn 3 (.t 2)), none⟩, ⟨none, .e (.st 3 (.t 3) (.t 9)), none⟩]
def c51_3 : SCode := .seq (.region c51_2 [3]) .ret
def c51_4 : SCode := .seq (.region c51_1 [2, 3]) c51_3
def c51_5 : SCode := .seq (.region c51_0 [1, 2, 3]) c51_4
def c51 : SCode := c51_5
theorem w51 : type_of% (And.intro (uR Try.prog c51_0.eq_1) (And.intro (uR Try.prog c51_1.eq_1) (And.intro (uR Try.prog c51_2.eq_1) (And.intro (uC Try.prog c51_3.eq_1) (And.intro (uC Try.prog c51_4.eq_1) (And.intro (uC Try.prog c51_5.eq_1) (uC Try.prog c51.eq_1))))))) := (And.intro (uR Try.prog c51_0.eq_1) (And.intro (uR Try.prog c51_1.eq_1) (And.intro (uR Try.prog c51_2.eq_1) (And.intro (uC Try.prog c51_3.eq_1) (And.intro (uC Try.prog c51_4.eq_1) (And.intro (uC Try.prog c51_5.eq_1) (uC Try.prog c51.eq_1)))))))
def v51 : List RV := [.c 3 (some 3)]
theorem s51 : slimF Try.prog Try.f51 = some (c51.bare, v51) := by kernel_rfl
/-! 24 loop.example/g00066/impl.Ripple: parameters 3, live [0, 1, 2], slots [0:track, 1:i, 2:n, 3:track, 4:i, 5:n] -/
def c24_0 : List SOper := [⟨some 5, .a (.box (.t 2)), none⟩, ⟨some 6, .q (.mv (.c (.slice none 0 0))), none⟩, ⟨some 7, .q (.mv (.c (.bool false))), none⟩]
def c24_1 : List SOper := [⟨some 8, .q (.mv (.t 0)), none⟩, ⟨some 9, .q (.mv (.t 1)), none⟩, ⟨some 10, .q (.ld (.t 5)), none⟩, ⟨some 11, .q (.mkf 59 [(.t 5)]), none⟩, ⟨some 12, .e (.call 50 [(.t 8), (.t 9), (.t 10), (.t 11)]), none⟩, ⟨some 13, .q (.ext (.t 12) 0), none⟩, ⟨some 14, .q (.ext (.t 12) 1), none⟩, ⟨some 6, .q (.mv (.t 13)), none⟩, ⟨some 7, .q (.mv (.t 14)), none⟩]
def c24_2 : SCode := .seq (.region c24_1 [6, 7]) .ret
def c24_3 : SCode := .seq (.region c24_0 [0, 1, 5]) c24_2
def c24 : SCode := c24_3
theorem w24 : type_of% (And.intro (uR Try.prog c24_0.eq_1) (And.intro (uR Try.prog c24_1.eq_1) (And.intro (uC Try.prog c24_2.eq_1) (And.intro (uC Try.prog c24_3.eq_1) (uC Try.prog c24.eq_1))))) := (And.intro (uR Try.prog c24_0.eq_1) (And.intro (uR Try.prog c24_1.eq_1) (And.intro (uC Try.prog c24_2.eq_1) (And.intro (uC Try.prog c24_3.eq_1) (uC Try.prog c24.eq_1)))))
def v24 : List RV := [.t 6, .t 7]
theorem s24 : slimF Try.prog Try.f24 = some (c24.bare, v24) := by kernel_rfl
/-! 59 loop.example/g00066/impl.Ripple$1: parameters 1, live [0, 1], slots [0:c, 2:c] -/
def c59_0 : List SOper := [⟨some 2, .a (.box (.t 0)), none⟩, ⟨some 3, .a (.new [(.int .i64 0), (.int .i64 0), (.int .i64 0)]), none⟩]
def c59_1 : List SOper := [⟨some 4, .q (.ldn 3 (.t 2)), none⟩, ⟨some 5, .q (.ld (.t 1)), none⟩, ⟨some 6, .e (.call 60 [(.t 4), (.t 5)]), none⟩, ⟨none, .e (.st 3 (.t 3) (.t 6)), none⟩]
def c59_2 : SCode := .seq (.region c59_1 [3]) .ret
def c59_3 : SCode := .seq (.region c59_0 [1, 2, 3]) c59_2
def c59 : SCode := c59_3
theorem w59 : type_of% (And.intro (uR Try.prog c59_0.eq_1) (And.intro (uR Try.prog c59_1.eq_1) (And.intro (uC Try.prog c59_2.eq_1) (And.intro (uC Try.prog c59_3.eq_1) (uC Try.prog c59.eq_1))))) := (And.intro (uR Try.prog c59_0.eq_1) (And.intro (uR Try.prog c59_1.eq_1) (And.intro (uC Try.prog c59_2.eq_1) (And.intro (uC Try.prog c59_3.eq_1) (uC Try.prog c59.eq_1)))))
def v59 : List RV := [.c 3 (some 3)]
theorem s59 : slimF Try.prog Try.f59 = some (c59.bare, v59) := by kernel_rfl
/-! 60 (loop.example/g00066/impl.Clip).longer: parameters 2, live [0, 1], slots [0:c, 1:n, 2:c, 3:n] -/
def c60_0 : List SOper := [⟨some 2, .a (.box (.t 0)), none⟩, ⟨some 4, .a (.new [(.int .i64 0), (.int .i64 0), (.int .i64 0)]), none⟩]
def c60_1 : List SOper := [⟨some 5, .q (.fa 2 (.t 2)), none⟩, ⟨some 6, .q (.ld (.t 5)), none⟩, ⟨some 7, .q (.mv (.t 1)), none⟩, ⟨some 8, .q (.bin .add (.t 6) (.t 7)), none⟩, ⟨some 9, .q (.fa 2 (.t 2)), none⟩, ⟨none, .e (.st 1 (.t 9) (.t 8)), none⟩]
def c60_2 : List SOper := [⟨some 10, .q (.ldn 3 (.t 2)), none⟩, ⟨none, .e (.st 3 (.t 4) (.t 10)), none⟩]
def c60_3 : SCode := .seq (.region c60_2 [4]) .ret
def c60_4 : SCode := .seq (.region c60_1 [2, 4]) c60_3
def c60_5 : SCode := .seq (.region c60_0 [1, 2, 4]) c60_4
def c60 : SCode := c60_5
theorem w60 : type_of% (And.intro (uR Try.prog c60_0.eq_1) (And.intro (uR Try.prog c60_1.eq_1) (And.intro (uR Try.prog c60_2.eq_1) (And.intro (uC Try.prog c60_3.eq_1) (And.intro (uC Try.prog c60_4.eq_1) (And.intro (uC Try.prog c60_5.eq_1) (uC Try.prog c60.eq_1))))))) := (And.intro (uR Try.prog c60_0.eq_1) (And.intro (uR Try.prog c60_1.eq_1) (And.intro (uR Try.prog c60_2.eq_1) (And.intro (uC Try.prog c60_3.eq_1) (And.intro (uC Try.prog c60_4.eq_1) (And.intro (uC Try.prog c60_5.eq_1) (uC Try.prog c60.eq_1)))))))
def v60 : List RV := [.c 4 (some 3)]
theorem s60 : slimF Try.prog Try.f60 = some (c60.bare, v60) := by kernel_rfl

theorem Rows.one {h : Heap} {v : Value} {l : List Clip} (s : SlT h encClip 3 v l) : Rows (h.more [[v]]) (.slice (some ⟨h.size, 0, none⟩) 1 1) [l] := by
  have := (OwnT.new h [v] encV_len (by omega)).slt
  refine ⟨[v], this, rfl, fun i h1 h2 => ?_⟩
  have hi : i = 0 := by simp at h1; omega
  subst hi
  exact s.ext (Ext.more h _)
theorem one_slice (h : Heap) (v : Value) (l : List Clip) (s : SlT h encClip 3 v l) : oneB [v] = true := by
  rcases s.sl with ⟨rfl, _⟩ | ⟨rfl, _⟩ | ⟨i, o, n, ob, rfl, _⟩ <;> rfl
theorem cells_sl {h : Heap} {v : Value} {l : List Clip} (s : SlT h encClip 3 v l) : v.cells = #[v] := by
  rcases s.sl with ⟨rfl, _⟩ | ⟨rfl, _⟩ | ⟨i, o, n, ob, rfl, _⟩ <;> rfl
theorem set_all {l : List Clip} {i : Nat} {x : Clip} (hl : ∀ k ∈ l, clipOk k) (hx : clipOk x) : ∀ k ∈ l.set i x, clipOk k := by
  intro k hk
  rcases List.mem_or_eq_of_mem_set hk with h | rfl
  · exact hl k h
  · exact hx
theorem turnedClip_ok (h : Heap) (v : Value) (l : List Clip) (i n : Int) (c : Nat) (cap : Array Value) (f : Clip → Clip) (s : SlT h encClip 3 v l) (hl : l.length ≤ 1100000)
    (hf : ∃ fn, Try.prog.funcs[c]? = some fn ∧ fn.body.isSome = true ∧ fn.name ≠ "runtime.NumGoroutine")
    (H : -10000000 ≤ n ∧ n ≤ 10000000 → ∀ h' k, Ext h h' → clipOk k → ACall Try.prog c ([.agg (encClip k).toArray] ++ cap.toList) h' fun r h2 => Ext h' h2 ∧ r = .agg (encClip (f k)).toArray) :
    ACall Try.prog 50 [v, .int .i64 i, .int .i64 n, .func (.func c) #[] cap] h fun r h' => Pair h h' r (turnF l i n f) := by
  obtain ⟨fn, hf1, hf2, hf3⟩ := hf
  refine ACall.of Try.func50 s50 (of_decide_eq_true rfl) ?_
  simp (maxSteps := 4000000) (disch := omega) only [ah, am, Nat.reduceEqDiff, reduceCtorEq, Nat.reduceAdd, Nat.reduceLeDiff, Nat.reduceMul, Nat.reduceLT, if_true, if_false, true_and, and_true, and_self, Nat.reduceBEq, QOp.loads, boxO, bslO, buildO, cutL, fillV, putL, w50, v50]
  refine stepC.of (implTrackOk_ok _ _ _ s hl) ?_
  rintro _ H1 ⟨e1, rfl⟩
  have S1 := s.ext e1
  have R := S1.rules
  by_cases ht : trackOk l
  · have ht' : decide (trackOk l) = true := decide_eq_true ht
    have hlen := ht.1
    simp (maxSteps := 4000000) (disch := omega) only [ah, am, Nat.reduceEqDiff, reduceCtorEq, Nat.reduceAdd, Nat.reduceLeDiff, Nat.reduceMul, Nat.reduceLT, if_true, if_false, true_and, and_true, and_self, Nat.reduceBEq, QOp.loads, boxO, bslO, buildO, cutL, fillV, putL, w50, v50, R, ht', i64w]
    refine stepC.of (in_ok _ _ _ _) ?_
    rintro _ Hx ⟨hx, rfl⟩; rw [hx]; clear hx Hx
    by_cases hi : 0 ≤ i ∧ i ≤ (l.length : Int) - 1
    · have hi' : decide (0 ≤ i ∧ i ≤ (l.length : Int) - 1) = true := decide_eq_true hi
      have C := cAt_eq l i (by omega)
      have hil : i.toNat < l.length := by omega
      simp (maxSteps := 4000000) (disch := omega) only [ah, am, Nat.reduceEqDiff, reduceCtorEq, Nat.reduceAdd, Nat.reduceLeDiff, Nat.reduceMul, Nat.reduceLT, if_true, if_false, true_and, and_true, and_self, Nat.reduceBEq, QOp.loads, boxO, bslO, buildO, cutL, fillV, putL, w50, v50, R, ht', hi', i64w]
      rw [← C]
      refine stepC.of (isGap_ok _ _) ?_
      rintro _ Hx ⟨hx, rfl⟩; rw [hx]; clear hx Hx
      have S2 := S1.ext (Ext.more H1 [encClip (cAt l i)])
      by_cases hg : (cAt l i).src = 0
      · have hg' : decide ((cAt l i).src = 0) = true := decide_eq_true hg
        have hT : turnF l i n f = ([], false) := if_neg fun q => q.2.2.2.2 hg
        simp (maxSteps := 4000000) (disch := omega) only [ah, am, Nat.reduceEqDiff, reduceCtorEq, Nat.reduceAdd, Nat.reduceLeDiff, Nat.reduceMul, Nat.reduceLT, if_true, if_false, true_and, and_true, and_self, Nat.reduceBEq, QOp.loads, boxO, bslO, buildO, cutL, fillV, putL, w50, v50, R, ht', hi', hg', i64w]
        rw [hT]
        exact ⟨_, rfl, (Fresh.nil _ encClip_len (by omega)).mono (e1.trans (Ext.more _ _))⟩
      · have hg' : decide ((cAt l i).src = 0) = false := decide_eq_false hg
        simp (maxSteps := 4000000) (disch := omega) only [ah, am, Nat.reduceEqDiff, reduceCtorEq, Nat.reduceAdd, Nat.reduceLeDiff, Nat.reduceMul, Nat.reduceLT, if_true, if_false, true_and, and_true, and_self, Nat.reduceBEq, QOp.loads, boxO, bslO, buildO, cutL, fillV, putL, w50, v50, R, ht', hi', hg', i64w]
        refine stepC.of (in_ok _ _ _ _) ?_
        rintro _ Hx ⟨hx, rfl⟩; rw [hx]; clear hx Hx
        by_cases hn : -10000000 ≤ n ∧ n ≤ 10000000
        · have hn' : decide (-10000000 ≤ n ∧ n ≤ 10000000) = true := decide_eq_true hn
          have hr : realAt l i := ⟨hi.1, by omega, hg⟩
          have hT : turnF l i n f = editF (l.set i.toNat (f (cAt l i))) := if_pos ⟨ht, hn, hr⟩
          have hk : clipOk (cAt l i) := by rw [C]; exact ht.2.1 _ (List.getElem_mem _)
          have E0 : Ext h (H1.more [encClip (cAt l i)]) := e1.trans (Ext.more _ _)
          simp (maxSteps := 4000000) (disch := omega) only [ah, am, Nat.reduceEqDiff, reduceCtorEq, Nat.reduceAdd, Nat.reduceLeDiff, Nat.reduceMul, Nat.reduceLT, if_true, if_false, true_and, and_true, and_self, Nat.reduceBEq, QOp.loads, boxO, bslO, buildO, cutL, fillV, putL, w50, v50, R, ht', hi', hg', hn', i64w]
          refine stepC.of (Clone_ok _ _ _ S2 hl) ?_
          intro v2 H2 F2
          have R2 := F2.slt.rules
          simp (maxSteps := 4000000) (disch := omega) only [ah, am, Nat.reduceEqDiff, reduceCtorEq, Nat.reduceAdd, Nat.reduceLeDiff, Nat.reduceMul, Nat.reduceLT, if_true, if_false, true_and, and_true, and_self, Nat.reduceBEq, QOp.loads, boxO, bslO, buildO, cutL, fillV, putL, w50, v50, R2, i64w, nilV_func]
          rw [← C]
          refine stepV.of hf1 hf2 hf3 (H hn H2 _ (E0.trans F2.1) hk) ?_
          rintro _ H3 ⟨e3, rfl⟩
          have F3 := F2.ext e3
          obtain ⟨H4, es, F4, -⟩ := F3.set (j := i.toNat) hil (f (cAt l i)) rfl
          have R4 := F4.slt.rules
          simp only [List.length_set] at R4
          simp (maxSteps := 4000000) (disch := omega) only [ah, am, Nat.reduceEqDiff, reduceCtorEq, Nat.reduceAdd, Nat.reduceLeDiff, Nat.reduceMul, Nat.reduceLT, if_true, if_false, true_and, and_true, and_self, Nat.reduceBEq, QOp.loads, boxO, bslO, buildO, cutL, fillV, putL, w50, v50, R2, R4, es, i64w, List.getElem_set_self]
          refine stepC.of (ok_ok _ _) ?_
          rintro _ H5 ⟨e5, rfl⟩
          have F5 := F4.ext e5
          simp (maxSteps := 4000000) (disch := omega) only [ah, am, Nat.reduceEqDiff, reduceCtorEq, Nat.reduceAdd, Nat.reduceLeDiff, Nat.reduceMul, Nat.reduceLT, if_true, if_false, true_and, and_true, and_self, Nat.reduceBEq, QOp.loads, boxO, bslO, buildO, cutL, fillV, putL, w50, v50]
          refine stepI.split (fun hq => ?_) (fun hq => ?_)
          · have A := set_all (i := i.toNat) ht.2.1 hq
            have ro := Rows.one F5.slt
            have o1 := one_slice _ _ _ F5.slt
            have c1 := cells_sl F5.slt
            simp (maxSteps := 4000000) (disch := omega) only [ah, am, Nat.reduceEqDiff, reduceCtorEq, Nat.reduceAdd, Nat.reduceLeDiff, Nat.reduceMul, Nat.reduceLT, if_true, if_false, true_and, and_true, and_self, Nat.reduceBEq, QOp.loads, boxO, bslO, buildO, cutL, fillV, putL, w50, v50, o1, c1, size_mk, List.reduceReplicate]
            refine stepC.of (edited_ok _ _ _ ro (by simp) (by simpa using hl) (fun k hk => (A k (by simpa using hk)).in)) ?_
            rintro _ H6 ⟨rv, rfl, F6⟩
            simp (maxSteps := 4000000) (disch := omega) only [ah, am, Nat.reduceEqDiff, reduceCtorEq, Nat.reduceAdd, Nat.reduceLeDiff, Nat.reduceMul, Nat.reduceLT, if_true, if_false, true_and, and_true, and_self, Nat.reduceBEq, QOp.loads, boxO, bslO, buildO, cutL, fillV, putL, w50, v50]
            have hE : editI [l.set i.toNat (f (cAt l i))].flatten = editF (l.set i.toNat (f (cAt l i))) := by
              rw [List.flatten_cons, List.flatten_nil, List.append_nil]
              unfold editI editF
              by_cases hj : trackOk (join (l.set i.toNat (f (cAt l i))))
              · rw [if_pos hj, if_pos ⟨A, hj⟩]
              · rw [if_neg hj, if_neg fun q => hj q.2]
            rw [hE] at F6 ⊢
            rw [hT]
            exact ⟨rv, rfl, F6.mono (E0.trans (F5.1.trans (Ext.more _ _)))⟩
          · have hE : editF (l.set i.toNat (f (cAt l i))) = ([], false) := if_neg fun q => hq (q.1 _ (List.mem_set hil _))
            simp (maxSteps := 4000000) (disch := omega) only [ah, am, Nat.reduceEqDiff, reduceCtorEq, Nat.reduceAdd, Nat.reduceLeDiff, Nat.reduceMul, Nat.reduceLT, if_true, if_false, true_and, and_true, and_self, Nat.reduceBEq, QOp.loads, boxO, bslO, buildO, cutL, fillV, putL, w50, v50]
            rw [hT, hE]
            exact ⟨_, rfl, (Fresh.nil _ encClip_len (by omega)).mono (E0.trans F5.1)⟩
        · have hn' : decide (-10000000 ≤ n ∧ n ≤ 10000000) = false := decide_eq_false hn
          have hT : turnF l i n f = ([], false) := if_neg fun q => hn q.2.1
          simp (maxSteps := 4000000) (disch := omega) only [ah, am, Nat.reduceEqDiff, reduceCtorEq, Nat.reduceAdd, Nat.reduceLeDiff, Nat.reduceMul, Nat.reduceLT, if_true, if_false, true_and, and_true, and_self, Nat.reduceBEq, QOp.loads, boxO, bslO, buildO, cutL, fillV, putL, w50, v50, R, ht', hi', hg', hn', i64w]
          rw [hT]
          exact ⟨_, rfl, (Fresh.nil _ encClip_len (by omega)).mono (e1.trans (Ext.more _ _))⟩
    · have hi' : decide (0 ≤ i ∧ i ≤ (l.length : Int) - 1) = false := decide_eq_false hi
      have hT : turnF l i n f = ([], false) := if_neg fun q => hi (by have := q.2.2.1; have := q.2.2.2.1; omega)
      simp (maxSteps := 4000000) (disch := omega) only [ah, am, Nat.reduceEqDiff, reduceCtorEq, Nat.reduceAdd, Nat.reduceLeDiff, Nat.reduceMul, Nat.reduceLT, if_true, if_false, true_and, and_true, and_self, Nat.reduceBEq, QOp.loads, boxO, bslO, buildO, cutL, fillV, putL, w50, v50, R, ht', hi', i64w]
      rw [hT]
      exact ⟨_, rfl, (Fresh.nil _ encClip_len (by omega)).mono e1⟩
  · have ht' : decide (trackOk l) = false := decide_eq_false ht
    have hT : turnF l i n f = ([], false) := if_neg fun q => ht q.1
    simp (maxSteps := 4000000) (disch := omega) only [ah, am, Nat.reduceEqDiff, reduceCtorEq, Nat.reduceAdd, Nat.reduceLeDiff, Nat.reduceMul, Nat.reduceLT, if_true, if_false, true_and, and_true, and_self, Nat.reduceBEq, QOp.loads, boxO, bslO, buildO, cutL, fillV, putL, w50, v50, R, ht', i64w]
    rw [hT]
    exact ⟨_, rfl, (Fresh.nil _ encClip_len (by omega)).mono e1⟩
theorem mem_num {k : Int} (h : 0 ≤ k) : True := trivial
theorem Slip1_ok (h : Heap) (k : Clip) (n : Int) (p : Value) (hk : clipOk k) (hn : -10000000 ≤ n ∧ n ≤ 10000000) (hp : ∀ L, ldV (h.more L) p = some (.int .i64 n)) :
    ACall Try.prog 51 [.agg (encClip k).toArray, p] h fun r h' => Ext h h' ∧ r = .agg (encClip ⟨k.src, k.inn + n, k.len⟩).toArray := by
  obtain ⟨a, b, c⟩ := k
  simp only [clipOk] at hk
  refine ACall.of Try.func51 s51 (of_decide_eq_true rfl) ?_
  simp (maxSteps := 4000000) (disch := omega) only [ah, am, Nat.reduceEqDiff, reduceCtorEq, Nat.reduceAdd, Nat.reduceLeDiff, Nat.reduceMul, Nat.reduceLT, if_true, if_false, true_and, and_true, and_self, Nat.reduceBEq, QOp.loads, boxO, bslO, buildO, cutL, fillV, putL, w51, v51, encClip, hp, i64w]
  exact Ext.more _ _
theorem longer_ok (h : Heap) (k : Clip) (n : Int) (hk : clipOk k) (hn : -10000000 ≤ n ∧ n ≤ 10000000) :
    ACall Try.prog 60 [.agg (encClip k).toArray, .int .i64 n] h fun r h' => h' = h.more [encClip ⟨k.src, k.inn, k.len + n⟩, encClip ⟨k.src, k.inn, k.len + n⟩] ∧ r = .agg (encClip ⟨k.src, k.inn, k.len + n⟩).toArray := by
  obtain ⟨a, b, c⟩ := k
  simp only [clipOk] at hk
  refine ACall.of Try.func60 s60 (of_decide_eq_true rfl) ?_
  simp (maxSteps := 4000000) (disch := omega) only [ah, am, Nat.reduceEqDiff, reduceCtorEq, Nat.reduceAdd, Nat.reduceLeDiff, Nat.reduceMul, Nat.reduceLT, if_true, if_false, true_and, and_true, and_self, Nat.reduceBEq, QOp.loads, boxO, bslO, buildO, cutL, fillV, putL, w60, v60, encClip, i64w]
theorem Ripple1_ok (h : Heap) (k : Clip) (n : Int) (p : Value) (hk : clipOk k) (hn : -10000000 ≤ n ∧ n ≤ 10000000) (hp : ∀ L, ldV (h.more L) p = some (.int .i64 n)) :
    ACall Try.prog 59 [.agg (encClip k).toArray, p] h fun r h' => Ext h h' ∧ r = .agg (encClip ⟨k.src, k.inn, k.len + n⟩).toArray := by
  have lo := fun h => longer_ok h k n hk hn
  obtain ⟨a, b, c⟩ := k
  refine ACall.of Try.func59 s59 (of_decide_eq_true rfl) ?_
  simp (maxSteps := 4000000) (disch := omega) only [ah, am, Nat.reduceEqDiff, reduceCtorEq, Nat.reduceAdd, Nat.reduceLeDiff, Nat.reduceMul, Nat.reduceLT, if_true, if_false, true_and, and_true, and_self, Nat.reduceBEq, QOp.loads, boxO, bslO, buildO, cutL, fillV, putL, w59, v59, encClip, hp, i64w]
  simp only [encClip] at lo
  refine stepC.of (lo _) ?_
  rintro _ _ ⟨rfl, rfl⟩
  simp (maxSteps := 4000000) (disch := omega) only [ah, am, Nat.reduceEqDiff, reduceCtorEq, Nat.reduceAdd, Nat.reduceLeDiff, Nat.reduceMul, Nat.reduceLT, if_true, if_false, true_and, and_true, and_self, Nat.reduceBEq, QOp.loads, boxO, bslO, buildO, cutL, fillV, putL, w59, v59, encClip]
  exact Ext.more _ _
theorem Slip_ok (h : Heap) (v : Value) (l : List Clip) (i n : Int) (s : SlT h encClip 3 v l) (hl : l.length ≤ 1100000) :
    ACall Try.prog 17 [v, .int .i64 i, .int .i64 n] h fun r h' => Pair h h' r (turnF l i n fun k => ⟨k.src, k.inn + n, k.len⟩) := by
  refine ACall.of Try.func17 s17 (of_decide_eq_true rfl) ?_
  simp (maxSteps := 4000000) (disch := omega) only [ah, am, Nat.reduceEqDiff, reduceCtorEq, Nat.reduceAdd, Nat.reduceLeDiff, Nat.reduceMul, Nat.reduceLT, if_true, if_false, true_and, and_true, and_self, Nat.reduceBEq, QOp.loads, boxO, bslO, buildO, cutL, fillV, putL, w17, v17]
  refine stepC.of (turnedClip_ok _ v l i n 51 _ (fun k => ⟨k.src, k.inn + n, k.len⟩) (s.ext (Ext.more h _)) hl ⟨_, Try.func51, rfl, by decide⟩ (fun hn h' k e hk => Slip1_ok h' k n _ hk hn (fun L => ?_))) ?_
  · have X := (e.trans (Ext.more h' L)).ld0
    rw [X.1]; rfl
  · rintro _ H ⟨rv, rfl, F⟩
    simp (maxSteps := 4000000) (disch := omega) only [ah, am, Nat.reduceEqDiff, reduceCtorEq, Nat.reduceAdd, Nat.reduceLeDiff, Nat.reduceMul, Nat.reduceLT, if_true, if_false, true_and, and_true, and_self, Nat.reduceBEq, QOp.loads, boxO, bslO, buildO, cutL, fillV, putL, w17, v17]
    exact ⟨rv, rfl, F.mono (Ext.more _ _)⟩
theorem Ripple_ok (h : Heap) (v : Value) (l : List Clip) (i n : Int) (s : SlT h encClip 3 v l) (hl : l.length ≤ 1100000) :
    ACall Try.prog 24 [v, .int .i64 i, .int .i64 n] h fun r h' => Pair h h' r (turnF l i n fun k => ⟨k.src, k.inn, k.len + n⟩) := by
  refine ACall.of Try.func24 s24 (of_decide_eq_true rfl) ?_
  simp (maxSteps := 4000000) (disch := omega) only [ah, am, Nat.reduceEqDiff, reduceCtorEq, Nat.reduceAdd, Nat.reduceLeDiff, Nat.reduceMul, Nat.reduceLT, if_true, if_false, true_and, and_true, and_self, Nat.reduceBEq, QOp.loads, boxO, bslO, buildO, cutL, fillV, putL, w24, v24]
  refine stepC.of (turnedClip_ok _ v l i n 59 _ (fun k => ⟨k.src, k.inn, k.len + n⟩) (s.ext (Ext.more h _)) hl ⟨_, Try.func59, rfl, by decide⟩ (fun hn h' k e hk => Ripple1_ok h' k n _ hk hn (fun L => ?_))) ?_
  · have X := (e.trans (Ext.more h' L)).ld0
    rw [X.1]; rfl
  · rintro _ H ⟨rv, rfl, F⟩
    simp (maxSteps := 4000000) (disch := omega) only [ah, am, Nat.reduceEqDiff, reduceCtorEq, Nat.reduceAdd, Nat.reduceLeDiff, Nat.reduceMul, Nat.reduceLT, if_true, if_false, true_and, and_true, and_self, Nat.reduceBEq, QOp.loads, boxO, bslO, buildO, cutL, fillV, putL, w24, v24]
    exact ⟨rv, rfl, F.mono (Ext.more _ _)⟩
end Go.Proofs.Ytbanblghepekdaa
