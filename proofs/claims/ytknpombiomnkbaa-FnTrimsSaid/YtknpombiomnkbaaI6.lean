import Derived.Test.YtknpombiomnkbaaI5
namespace Go.Proofs.Ytknpombiomnkbaa
open Go Go.Ah
set_option linter.unusedSimpArgs false
set_option linter.unusedVariables false
set_option maxRecDepth 10000
set_option maxHeartbeats 4000000
/-! 85 loop.example/g00066/impl.turnedClip: parameters 4, live [0, 1, 2, 3], slots [0:track, 1:i, 2:n, 3:turn, 4:track, 5:i, 6:n, 7:turn, 10:out] -/
def c85_0 : List SOper := [⟨some 8, .q (.mv (.c (.slice none 0 0))), none⟩, ⟨some 9, .q (.mv (.c (.bool false))), none⟩]
def c85_1 : List SOper := [⟨some 11, .q (.mv (.t 0)), none⟩, ⟨some 12, .e (.call 50 [(.t 11)]), none⟩, ⟨some 13, .q (.not (.t 12)), none⟩, ⟨some 14, .q (.mv (.t 13)), none⟩, ⟨some 15, .q (.mv (.t 1)), some (14, false)⟩, ⟨some 16, .q (.mv (.t 0)), some (14, false)⟩, ⟨some 17, .q (.len (.t 16)), some (14, false)⟩, ⟨some 18, .q (.bin .sub (.t 17) (.c (.int .i64 1))), some (14, false)⟩, ⟨some 19, .e (.call 51 [(.t 15), (.c (.int .i64 0)), (.t 18)]), some (14, false)⟩, ⟨some 20, .q (.not (.t 19)), some (14, false)⟩, ⟨some 21, .q (.pick (.t 14) (.c (.bool true)) (.t 20)), none⟩, ⟨some 22, .q (.mv (.t 21)), none⟩, ⟨some 23, .q (.mv (.t 0)), some (22, false)⟩, ⟨some 24, .q (.mv (.t 1)), some (22, false)⟩, ⟨some 25, .q (.ia 3 (.t 23) (.t 24)), some (22, false)⟩, ⟨some 26, .q (.ldn 3 (.t 25)), some (22, false)⟩, ⟨some 27, .e (.call 87 [(.t 26)]), some (22, false)⟩, ⟨some 28, .q (.pick (.t 22) (.c (.bool true)) (.t 27)), none⟩, ⟨some 29, .q (.mv (.t 28)), none⟩, ⟨some 30, .q (.mv (.t 2)), some (29, false)⟩, ⟨some 31, .e (.call 51 [(.t 30), (.c (.int .i64 (-10000000))), (.c (.int .i64 10000000))]), some (29, false)⟩, ⟨some 32, .q (.not (.t 31)), some (29, false)⟩, ⟨some 33, .q (.pick (.t 29) (.c (.bool true)) (.t 32)), none⟩]
def c85_2 : List SOper := [⟨some 8, .q (.mv (.c (.slice none 0 0))), none⟩, ⟨some 9, .q (.mv (.c (.bool false))), none⟩]
def c85_3 : SCode := .seq (.region c85_2 [8, 9]) .ret
def c85_4 : SCode := .cond (.t 33) c85_3 .skip
def c85_5 : SCode := .seq (.region c85_1 [0, 1, 3, 33]) c85_4
def c85_6 : List SOper := [⟨some 34, .q (.mv (.t 0)), none⟩, ⟨some 35, .e (.call 52 [(.t 34)]), none⟩, ⟨some 10, .q (.mv (.t 35)), none⟩]
def c85_7 : List SOper := [⟨some 36, .q (.mv (.t 10)), none⟩, ⟨some 37, .q (.mv (.t 1)), none⟩, ⟨some 38, .q (.mv (.t 3)), none⟩, ⟨some 39, .q (.mv (.t 10)), none⟩, ⟨some 40, .q (.mv (.t 1)), none⟩, ⟨some 41, .q (.ia 3 (.t 39) (.t 40)), none⟩, ⟨some 42, .q (.ldn 3 (.t 41)), none⟩, ⟨some 43, .e (.callv (.t 38) [(.t 42)]), none⟩, ⟨some 44, .q (.ia 3 (.t 36) (.t 37)), none⟩, ⟨none, .e (.st 3 (.t 44) (.t 43)), none⟩]
def c85_8 : List SOper := [⟨some 45, .q (.mv (.t 10)), none⟩, ⟨some 46, .q (.mv (.t 1)), none⟩, ⟨some 47, .q (.ia 3 (.t 45) (.t 46)), none⟩, ⟨some 48, .q (.ldn 3 (.t 47)), none⟩, ⟨some 49, .e (.call 53 [(.t 48)]), none⟩, ⟨some 50, .q (.not (.t 49)), none⟩]
def c85_9 : List SOper := [⟨some 8, .q (.mv (.c (.slice none 0 0))), none⟩, ⟨some 9, .q (.mv (.c (.bool false))), none⟩]
def c85_10 : SCode := .seq (.region c85_9 [8, 9]) .ret
def c85_11 : SCode := .cond (.t 50) c85_10 .skip
def c85_12 : SCode := .seq (.region c85_8 [10, 50]) c85_11
def c85_13 : List SOper := [⟨some 51, .q (.mv (.t 10)), none⟩, ⟨some 52, .a (.bsl 1 1 [(.slice none 0 0)] [(0, 1, (.t 51))]), none⟩, ⟨some 53, .e (.call 54 [(.t 52)]), none⟩, ⟨some 54, .q (.ext (.t 53) 0), none⟩, ⟨some 55, .q (.ext (.t 53) 1), none⟩, ⟨some 8, .q (.mv (.t 54)), none⟩, ⟨some 9, .q (.mv (.t 55)), none⟩]
def c85_14 : SCode := .seq (.region c85_13 [8, 9]) .ret
def c85_15 : SCode := .seq c85_12 c85_14
def c85_16 : SCode := .seq (.region c85_7 [1, 10]) c85_15
def c85_17 : SCode := .seq (.region c85_6 [1, 3, 10]) c85_16
def c85_18 : SCode := .seq c85_5 c85_17
def c85_19 : SCode := .seq (.region c85_0 [0, 1, 2, 3]) c85_18
def c85 : SCode := c85_19
theorem w85 : type_of% (And.intro (uR Try.prog c85_0.eq_1) (And.intro (uR Try.prog c85_1.eq_1) (And.intro (uR Try.prog c85_2.eq_1) (And.intro (uC Try.prog c85_3.eq_1) (And.intro (uC Try.prog c85_4.eq_1) (And.intro (uC Try.prog c85_5.eq_1) (And.intro (uR Try.prog c85_6.eq_1) (And.intro (uR Try.prog c85_7.eq_1) (And.intro (uR Try.prog c85_8.eq_1) (And.intro (uR Try.prog c85_9.eq_1) (And.intro (uC Try.prog c85_10.eq_1) (And.intro (uC Try.prog c85_11.eq_1) (And.intro (uC Try.prog c85_12.eq_1) (And.intro (uR Try.prog c85_13.eq_1) (And.intro (uC Try.prog c85_14.eq_1) (And.intro (uC Try.prog c85_15.eq_1) (And.intro (uC Try.prog c85_16.eq_1) (And.intro (uC Try.prog c85_17.eq_1) (And.intro (uC Try.prog c85_18.eq_1) (And.intro (uC Try.prog c85_19.eq_1) (uC Try.prog c85.eq_1))))))))))))))))))))) := (And.intro (uR Try.prog c85_0.eq_1) (And.intro (uR Try.prog c85_1.eq_1) (And.intro (uR Try.prog c85_2.eq_1) (And.intro (uC Try.prog c85_3.eq_1) (And.intro (uC Try.prog c85_4.eq_1) (And.intro (uC Try.prog c85_5.eq_1) (And.intro (uR Try.prog c85_6.eq_1) (And.intro (uR Try.prog c85_7.eq_1) (And.intro (uR Try.prog c85_8.eq_1) (And.intro (uR Try.prog c85_9.eq_1) (And.intro (uC Try.prog c85_10.eq_1) (And.intro (uC Try.prog c85_11.eq_1) (And.intro (uC Try.prog c85_12.eq_1) (And.intro (uR Try.prog c85_13.eq_1) (And.intro (uC Try.prog c85_14.eq_1) (And.intro (uC Try.prog c85_15.eq_1) (And.intro (uC Try.prog c85_16.eq_1) (And.intro (uC Try.prog c85_17.eq_1) (And.intro (uC Try.prog c85_18.eq_1) (And.intro (uC Try.prog c85_19.eq_1) (uC Try.prog c85.eq_1)))))))))))))))))))))
def v85 : List RV := [.t 8, .t 9]
theorem s85 : slimF Try.prog Try.f85 = some (c85.bare, v85) := by kernel_rfl
/-! 39 loop.example/g00066/impl.Slip: parameters 3, live [0, 1, 2], slots [0:track, 1:i, 2:n, 3:track, 4:i, 5:n] -/
def c39_0 : List SOper := [⟨some 5, .a (.box (.t 2)), none⟩, ⟨some 6, .q (.mv (.c (.slice none 0 0))), none⟩, ⟨some 7, .q (.mv (.c (.bool false))), none⟩]
def c39_1 : List SOper := [⟨some 8, .q (.mv (.t 0)), none⟩, ⟨some 9, .q (.mv (.t 1)), none⟩, ⟨some 10, .q (.ld (.t 5)), none⟩, ⟨some 11, .q (.mkf 86 [(.t 5)]), none⟩, ⟨some 12, .e (.call 85 [(.t 8), (.t 9), (.t 10), (.t 11)]), none⟩, ⟨some 13, .q (.ext (.t 12) 0), none⟩, ⟨some 14, .q (.ext (.t 12) 1), none⟩, ⟨some 6, .q (.mv (.t 13)), none⟩, ⟨some 7, .q (.mv (.t 14)), none⟩]
def c39_2 : SCode := .seq (.region c39_1 [6, 7]) .ret
def c39_3 : SCode := .seq (.region c39_0 [0, 1, 5]) c39_2
def c39 : SCode := c39_3
theorem w39 : type_of% (And.intro (uR Try.prog c39_0.eq_1) (And.intro (uR Try.prog c39_1.eq_1) (And.intro (uC Try.prog c39_2.eq_1) (And.intro (uC Try.prog c39_3.eq_1) (uC Try.prog c39.eq_1))))) := (And.intro (uR Try.prog c39_0.eq_1) (And.intro (uR Try.prog c39_1.eq_1) (And.intro (uC Try.prog c39_2.eq_1) (And.intro (uC Try.prog c39_3.eq_1) (uC Try.prog c39.eq_1)))))
def v39 : List RV := [.t 6, .t 7]
theorem s39 : slimF Try.prog Try.f39 = some (c39.bare, v39) := by kernel_rfl
/-! 86 loop.example/g00066/impl.Slip$1: parameters 1, live [0, 1], slots [0:c, 2:c] -/
def c86_0 : List SOper := [⟨some 2, .a (.box (.t 0)), none⟩, ⟨some 3, .a (.new [(.int .i64 0), (.int .i64 0), (.int .i64 0)]), none⟩]
def c86_1 : List SOper := [⟨some 4, .q (.fa 1 (.t 2)), none⟩, ⟨some 5, .q (.ld (.t 4)), none⟩, ⟨some 6, .q (.ld (.t 1)), none⟩, ⟨some 7, .q (.bin .add (.t 5) (.t 6)), none⟩, ⟨some 8, .q (.fa 1 (.t 2)), none⟩, ⟨none, .e (.st 1 (.t 8) (.t 7)), none⟩]
def c86_2 : List SOper := [⟨some 9, .q (.ldn 3 (.t 2)), none⟩, ⟨none, .e (.st 3 (.t 3) (.t 9)), none⟩]
def c86_3 : SCode := .seq (.region c86_2 [3]) .ret
def c86_4 : SCode := .seq (.region c86_1 [2, 3]) c86_3
def c86_5 : SCode := .seq (.region c86_0 [1, 2, 3]) c86_4
def c86 : SCode := c86_5
theorem w86 : type_of% (And.intro (uR Try.prog c86_0.eq_1) (And.intro (uR Try.prog c86_1.eq_1) (And.intro (uR Try.prog c86_2.eq_1) (And.intro (uC Try.prog c86_3.eq_1) (And.intro (uC Try.prog c86_4.eq_1) (And.intro (uC Try.prog c86_5.eq_1) (uC Try.prog c86.eq_1))))))) := (And.intro (uR Try.prog c86_0.eq_1) (And.intro (uR Try.prog c86_1.eq_1) (And.intro (uR Try.prog c86_2.eq_1) (And.intro (uC Try.prog c86_3.eq_1) (And.intro (uC Try.prog c86_4.eq_1) (And.intro (uC Try.prog c86_5.eq_1) (uC Try.prog c86.eq_1)))))))
def v86 : List RV := [.c 3 (some 3)]
theorem s86 : slimF Try.prog Try.f86 = some (c86.bare, v86) := by kernel_rfl
/-! 43 loop.example/g00066/impl.Ripple: parameters 3, live [0, 1, 2], slots [0:track, 1:i, 2:n, 3:track, 4:i, 5:n] -/
def c43_0 : List SOper := [⟨some 5, .a (.box (.t 2)), none⟩, ⟨some 6, .q (.mv (.c (.slice none 0 0))), none⟩, ⟨some 7, .q (.mv (.c (.bool false))), none⟩]
def c43_1 : List SOper := [⟨some 8, .q (.mv (.t 0)), none⟩, ⟨some 9, .q (.mv (.t 1)), none⟩, ⟨some 10, .q (.ld (.t 5)), none⟩, ⟨some 11, .q (.mkf 88 [(.t 5)]), none⟩, ⟨some 12, .e (.call 85 [(.t 8), (.t 9), (.t 10), (.t 11)]), none⟩, ⟨some 13, .q (.ext (.t 12) 0), none⟩, ⟨some 14, .q (.ext (.t 12) 1), none⟩, ⟨some 6, .q (.mv (.t 13)), none⟩, ⟨some 7, .q (.mv (.t 14)), none⟩]
def c43_2 : SCode := .seq (.region c43_1 [6, 7]) .ret
def c43_3 : SCode := .seq (.region c43_0 [0, 1, 5]) c43_2
def c43 : SCode := c43_3
theorem w43 : type_of% (And.intro (uR Try.prog c43_0.eq_1) (And.intro (uR Try.prog c43_1.eq_1) (And.intro (uC Try.prog c43_2.eq_1) (And.intro (uC Try.prog c43_3.eq_1) (uC Try.prog c43.eq_1))))) := (And.intro (uR Try.prog c43_0.eq_1) (And.intro (uR Try.prog c43_1.eq_1) (And.intro (uC Try.prog c43_2.eq_1) (And.intro (uC Try.prog c43_3.eq_1) (uC Try.prog c43.eq_1)))))
def v43 : List RV := [.t 6, .t 7]
theorem s43 : slimF Try.prog Try.f43 = some (c43.bare, v43) := by kernel_rfl
/-! 88 loop.example/g00066/impl.Ripple$1: parameters 1, live [0, 1], slots [0:c, 2:c] -/
def c88_0 : List SOper := [⟨some 2, .a (.box (.t 0)), none⟩, ⟨some 3, .a (.new [(.int .i64 0), (.int .i64 0), (.int .i64 0)]), none⟩]
def c88_1 : List SOper := [⟨some 4, .q (.ldn 3 (.t 2)), none⟩, ⟨some 5, .q (.ld (.t 1)), none⟩, ⟨some 6, .e (.call 89 [(.t 4), (.t 5)]), none⟩, ⟨none, .e (.st 3 (.t 3) (.t 6)), none⟩]
def c88_2 : SCode := .seq (.region c88_1 [3]) .ret
def c88_3 : SCode := .seq (.region c88_0 [1, 2, 3]) c88_2
def c88 : SCode := c88_3
theorem w88 : type_of% (And.intro (uR Try.prog c88_0.eq_1) (And.intro (uR Try.prog c88_1.eq_1) (And.intro (uC Try.prog c88_2.eq_1) (And.intro (uC Try.prog c88_3.eq_1) (uC Try.prog c88.eq_1))))) := (And.intro (uR Try.prog c88_0.eq_1) (And.intro (uR Try.prog c88_1.eq_1) (And.intro (uC Try.prog c88_2.eq_1) (And.intro (uC Try.prog c88_3.eq_1) (uC Try.prog c88.eq_1)))))
def v88 : List RV := [.c 3 (some 3)]
theorem s88 : slimF Try.prog Try.f88 = some (c88.bare, v88) := by kernel_rfl
/-! 89 (loop.example/g00066/impl.Clip).longer: parameters 2, live [0, 1], slots [0:c, 1:n, 2:c, 3:n] -/
def c89_0 : List SOper := [⟨some 2, .a (.box (.t 0)), none⟩, ⟨some 4, .a (.new [(.int .i64 0), (.int .i64 0), (.int .i64 0)]), none⟩]
def c89_1 : List SOper := [⟨some 5, .q (.fa 2 (.t 2)), none⟩, ⟨some 6, .q (.ld (.t 5)), none⟩, ⟨some 7, .q (.mv (.t 1)), none⟩, ⟨some 8, .q (.bin .add (.t 6) (.t 7)), none⟩, ⟨some 9, .q (.fa 2 (.t 2)), none⟩, ⟨none, .e (.st 1 (.t 9) (.t 8)), none⟩]
def c89_2 : List SOper := [⟨some 10, .q (.ldn 3 (.t 2)), none⟩, ⟨none, .e (.st 3 (.t 4) (.t 10)), none⟩]
def c89_3 : SCode := .seq (.region c89_2 [4]) .ret
def c89_4 : SCode := .seq (.region c89_1 [2, 4]) c89_3
def c89_5 : SCode := .seq (.region c89_0 [1, 2, 4]) c89_4
def c89 : SCode := c89_5
theorem w89 : type_of% (And.intro (uR Try.prog c89_0.eq_1) (And.intro (uR Try.prog c89_1.eq_1) (And.intro (uR Try.prog c89_2.eq_1) (And.intro (uC Try.prog c89_3.eq_1) (And.intro (uC Try.prog c89_4.eq_1) (And.intro (uC Try.prog c89_5.eq_1) (uC Try.prog c89.eq_1))))))) := (And.intro (uR Try.prog c89_0.eq_1) (And.intro (uR Try.prog c89_1.eq_1) (And.intro (uR Try.prog c89_2.eq_1) (And.intro (uC Try.prog c89_3.eq_1) (And.intro (uC Try.prog c89_4.eq_1) (And.intro (uC Try.prog c89_5.eq_1) (uC Try.prog c89.eq_1)))))))
def v89 : List RV := [.c 4 (some 3)]
theorem s89 : slimF Try.prog Try.f89 = some (c89.bare, v89) := by kernel_rfl

theorem Rows.one {h : Heap} {v : Value} {l : List Clip} (s : SlT h encClip 3 v l) : Rows (h.more [[v]]) (.slice (some ⟨h.size, 0, none⟩) 1 1) [l] := by
  have := (OwnT.new h [v] encV_len (by omega)).slt
  refine ⟨[v], this, rfl, fun i h1 h2 => ?_⟩
  have hi : i = 0 := by simp at h1; omega
  subst hi
  exact s.ext (Ext.more h _)
theorem one_slice (h : Heap) (v : Value) (l : List Clip) (s : SlT h encClip 3 v l) : oneB [v] = true := by
  rcases s.sl with ⟨rfl, _⟩ | ⟨rfl, _⟩ | ⟨i, o, n, ob, rfl, _⟩ <;> rfl
theorem cells_sl {h : Heap} {v : Value} {l : List Clip} (s : SlT h encClip 3 v l) : v.cells = #[v] := by
  rcases s.sl with ⟨rfl, _⟩ | ⟨rfl, _⟩ | ⟨i, o, n, ob, rfl, _⟩ <;> rfl
theorem set_all {l : List Clip} {i : Nat} {x : Clip} (hl : ∀ k ∈ l, clipOk k) (hx : clipOk x) : ∀ k ∈ l.set i x, clipOk k := by
  intro k hk
  rcases List.mem_or_eq_of_mem_set hk with h | rfl
  · exact hl k h
  · exact hx
theorem turnedClip_ok (h : Heap) (v : Value) (l : List Clip) (i n : Int) (c : Nat) (cap : Array Value) (f : Clip → Clip) (s : SlT h encClip 3 v l) (hl : l.length ≤ 1100000)
    (hf : ∃ fn, Try.prog.funcs[c]? = some fn ∧ fn.body.isSome = true ∧ fn.name ≠ "runtime.NumGoroutine")
    (H : -10000000 ≤ n ∧ n ≤ 10000000 → ∀ h' k, Ext h h' → clipOk k → ACall Try.prog c ([.agg (encClip k).toArray] ++ cap.toList) h' fun r h2 => Ext h' h2 ∧ r = .agg (encClip (f k)).toArray) :
    ACall Try.prog 85 [v, .int .i64 i, .int .i64 n, .func (.func c) #[] cap] h fun r h' => Pair h h' r (turnF l i n f) := by
  obtain ⟨fn, hf1, hf2, hf3⟩ := hf
  refine ACall.of Try.func85 s85 (of_decide_eq_true rfl) ?_
  simp (maxSteps := 4000000) (disch := omega) only [ah, am, Nat.reduceEqDiff, reduceCtorEq, Nat.reduceAdd, Nat.reduceLeDiff, Nat.reduceMul, Nat.reduceLT, if_true, if_false, true_and, and_true, and_self, Nat.reduceBEq, QOp.loads, boxO, bslO, buildO, cutL, fillV, putL, w85, v85]
  refine stepC.of (implTrackOk_ok _ _ _ s hl) ?_
  rintro _ H1 ⟨e1, rfl⟩
  have S1 := s.ext e1
  have R := S1.rules
  by_cases ht : trackOk l
  · have ht' : decide (trackOk l) = true := decide_eq_true ht
    have hlen := ht.1
    simp (maxSteps := 4000000) (disch := omega) only [ah, am, Nat.reduceEqDiff, reduceCtorEq, Nat.reduceAdd, Nat.reduceLeDiff, Nat.reduceMul, Nat.reduceLT, if_true, if_false, true_and, and_true, and_self, Nat.reduceBEq, QOp.loads, boxO, bslO, buildO, cutL, fillV, putL, w85, v85, R, ht', i64w]
    refine stepC.of (in_ok _ _ _ _) ?_
    rintro _ Hx ⟨hx, rfl⟩; rw [hx]; clear hx Hx
    by_cases hi : 0 ≤ i ∧ i ≤ (l.length : Int) - 1
    · have hi' : decide (0 ≤ i ∧ i ≤ (l.length : Int) - 1) = true := decide_eq_true hi
      have C := cAt_eq l i (by omega)
      have hil : i.toNat < l.length := by omega
      simp (maxSteps := 4000000) (disch := omega) only [ah, am, Nat.reduceEqDiff, reduceCtorEq, Nat.reduceAdd, Nat.reduceLeDiff, Nat.reduceMul, Nat.reduceLT, if_true, if_false, true_and, and_true, and_self, Nat.reduceBEq, QOp.loads, boxO, bslO, buildO, cutL, fillV, putL, w85, v85, R, ht', hi', i64w]
      rw [← C]
      refine stepC.of (isGap_ok _ _) ?_
      rintro _ Hx ⟨hx, rfl⟩; rw [hx]; clear hx Hx
      have S2 := S1.ext (Ext.more H1 [encClip (cAt l i)])
      by_cases hg : (cAt l i).src = 0
      · have hg' : decide ((cAt l i).src = 0) = true := decide_eq_true hg
        have hT : turnF l i n f = ([], false) := if_neg fun q => q.2.2.2.2 hg
        simp (maxSteps := 4000000) (disch := omega) only [ah, am, Nat.reduceEqDiff, reduceCtorEq, Nat.reduceAdd, Nat.reduceLeDiff, Nat.reduceMul, Nat.reduceLT, if_true, if_false, true_and, and_true, and_self, Nat.reduceBEq, QOp.loads, boxO, bslO, buildO, cutL, fillV, putL, w85, v85, R, ht', hi', hg', i64w]
        rw [hT]
        exact ⟨_, rfl, (Fresh.nil _ encClip_len (by omega)).mono (e1.trans (Ext.more _ _))⟩
      · have hg' : decide ((cAt l i).src = 0) = false := decide_eq_false hg
        simp (maxSteps := 4000000) (disch := omega) only [ah, am, Nat.reduceEqDiff, reduceCtorEq, Nat.reduceAdd, Nat.reduceLeDiff, Nat.reduceMul, Nat.reduceLT, if_true, if_false, true_and, and_true, and_self, Nat.reduceBEq, QOp.loads, boxO, bslO, buildO, cutL, fillV, putL, w85, v85, R, ht', hi', hg', i64w]
        refine stepC.of (in_ok _ _ _ _) ?_
        rintro _ Hx ⟨hx, rfl⟩; rw [hx]; clear hx Hx
        by_cases hn : -10000000 ≤ n ∧ n ≤ 10000000
        · have hn' : decide (-10000000 ≤ n ∧ n ≤ 10000000) = true := decide_eq_true hn
          have hr : realAt l i := ⟨hi.1, by omega, hg⟩
          have hT : turnF l i n f = editF (l.set i.toNat (f (cAt l i))) := if_pos ⟨ht, hn, hr⟩
          have hk : clipOk (cAt l i) := by rw [C]; exact ht.2.1 _ (List.getElem_mem _)
          have E0 : Ext h (H1.more [encClip (cAt l i)]) := e1.trans (Ext.more _ _)
          simp (maxSteps := 4000000) (disch := omega) only [ah, am, Nat.reduceEqDiff, reduceCtorEq, Nat.reduceAdd, Nat.reduceLeDiff, Nat.reduceMul, Nat.reduceLT, if_true, if_false, true_and, and_true, and_self, Nat.reduceBEq, QOp.loads, boxO, bslO, buildO, cutL, fillV, putL, w85, v85, R, ht', hi', hg', hn', i64w]
          refine stepC.of (Clone_ok _ _ _ S2 hl) ?_
          intro v2 H2 F2
          have R2 := F2.slt.rules
          simp (maxSteps := 4000000) (disch := omega) only [ah, am, Nat.reduceEqDiff, reduceCtorEq, Nat.reduceAdd, Nat.reduceLeDiff, Nat.reduceMul, Nat.reduceLT, if_true, if_false, true_and, and_true, and_self, Nat.reduceBEq, QOp.loads, boxO, bslO, buildO, cutL, fillV, putL, w85, v85, R2, i64w, nilV_func]
          rw [← C]
          refine stepV.of hf1 hf2 hf3 (H hn H2 _ (E0.trans F2.1) hk) ?_
          rintro _ H3 ⟨e3, rfl⟩
          have F3 := F2.ext e3
          obtain ⟨H4, es, F4, -⟩ := F3.set (j := i.toNat) hil (f (cAt l i)) rfl
          have R4 := F4.slt.rules
          simp only [List.length_set] at R4
          simp (maxSteps := 4000000) (disch := omega) only [ah, am, Nat.reduceEqDiff, reduceCtorEq, Nat.reduceAdd, Nat.reduceLeDiff, Nat.reduceMul, Nat.reduceLT, if_true, if_false, true_and, and_true, and_self, Nat.reduceBEq, QOp.loads, boxO, bslO, buildO, cutL, fillV, putL, w85, v85, R2, R4, es, i64w, List.getElem_set_self]
          refine stepC.of (ok_ok _ _) ?_
          rintro _ H5 ⟨e5, rfl⟩
          have F5 := F4.ext e5
          simp (maxSteps := 4000000) (disch := omega) only [ah, am, Nat.reduceEqDiff, reduceCtorEq, Nat.reduceAdd, Nat.reduceLeDiff, Nat.reduceMul, Nat.reduceLT, if_true, if_false, true_and, and_true, and_self, Nat.reduceBEq, QOp.loads, boxO, bslO, buildO, cutL, fillV, putL, w85, v85]
          refine stepI.split (fun hq => ?_) (fun hq => ?_)
          · have A := set_all (i := i.toNat) ht.2.1 hq
            have ro := Rows.one F5.slt
            have o1 := one_slice _ _ _ F5.slt
            have c1 := cells_sl F5.slt
            simp (maxSteps := 4000000) (disch := omega) only [ah, am, Nat.reduceEqDiff, reduceCtorEq, Nat.reduceAdd, Nat.reduceLeDiff, Nat.reduceMul, Nat.reduceLT, if_true, if_false, true_and, and_true, and_self, Nat.reduceBEq, QOp.loads, boxO, bslO, buildO, cutL, fillV, putL, w85, v85, o1, c1, size_mk, List.reduceReplicate]
            refine stepC.of (edited_ok _ _ _ ro (by simp) (by simpa using hl) (fun k hk => (A k (by simpa using hk)).in)) ?_
            rintro _ H6 ⟨rv, rfl, F6⟩
            simp (maxSteps := 4000000) (disch := omega) only [ah, am, Nat.reduceEqDiff, reduceCtorEq, Nat.reduceAdd, Nat.reduceLeDiff, Nat.reduceMul, Nat.reduceLT, if_true, if_false, true_and, and_true, and_self, Nat.reduceBEq, QOp.loads, boxO, bslO, buildO, cutL, fillV, putL, w85, v85]
            have hE : editI [l.set i.toNat (f (cAt l i))].flatten = editF (l.set i.toNat (f (cAt l i))) := by
              rw [List.flatten_cons, List.flatten_nil, List.append_nil]
              unfold editI editF
              by_cases hj : trackOk (join (l.set i.toNat (f (cAt l i))))
              · rw [if_pos hj, if_pos ⟨A, hj⟩]
              · rw [if_neg hj, if_neg fun q => hj q.2]
            rw [hE] at F6 ⊢
            rw [hT]
            exact ⟨rv, rfl, F6.mono (E0.trans (F5.1.trans (Ext.more _ _)))⟩
          · have hE : editF (l.set i.toNat (f (cAt l i))) = ([], false) := if_neg fun q => hq (q.1 _ (List.mem_set hil _))
            simp (maxSteps := 4000000) (disch := omega) only [ah, am, Nat.reduceEqDiff, reduceCtorEq, Nat.reduceAdd, Nat.reduceLeDiff, Nat.reduceMul, Nat.reduceLT, if_true, if_false, true_and, and_true, and_self, Nat.reduceBEq, QOp.loads, boxO, bslO, buildO, cutL, fillV, putL, w85, v85]
            rw [hT, hE]
            exact ⟨_, rfl, (Fresh.nil _ encClip_len (by omega)).mono (E0.trans F5.1)⟩
        · have hn' : decide (-10000000 ≤ n ∧ n ≤ 10000000) = false := decide_eq_false hn
          have hT : turnF l i n f = ([], false) := if_neg fun q => hn q.2.1
          simp (maxSteps := 4000000) (disch := omega) only [ah, am, Nat.reduceEqDiff, reduceCtorEq, Nat.reduceAdd, Nat.reduceLeDiff, Nat.reduceMul, Nat.reduceLT, if_true, if_false, true_and, and_true, and_self, Nat.reduceBEq, QOp.loads, boxO, bslO, buildO, cutL, fillV, putL, w85, v85, R, ht', hi', hg', hn', i64w]
          rw [hT]
          exact ⟨_, rfl, (Fresh.nil _ encClip_len (by omega)).mono (e1.trans (Ext.more _ _))⟩
    · have hi' : decide (0 ≤ i ∧ i ≤ (l.length : Int) - 1) = false := decide_eq_false hi
      have hT : turnF l i n f = ([], false) := if_neg fun q => hi (by have := q.2.2.1; have := q.2.2.2.1; omega)
      simp (maxSteps := 4000000) (disch := omega) only [ah, am, Nat.reduceEqDiff, reduceCtorEq, Nat.reduceAdd, Nat.reduceLeDiff, Nat.reduceMul, Nat.reduceLT, if_true, if_false, true_and, and_true, and_self, Nat.reduceBEq, QOp.loads, boxO, bslO, buildO, cutL, fillV, putL, w85, v85, R, ht', hi', i64w]
      rw [hT]
      exact ⟨_, rfl, (Fresh.nil _ encClip_len (by omega)).mono e1⟩
  · have ht' : decide (trackOk l) = false := decide_eq_false ht
    have hT : turnF l i n f = ([], false) := if_neg fun q => ht q.1
    simp (maxSteps := 4000000) (disch := omega) only [ah, am, Nat.reduceEqDiff, reduceCtorEq, Nat.reduceAdd, Nat.reduceLeDiff, Nat.reduceMul, Nat.reduceLT, if_true, if_false, true_and, and_true, and_self, Nat.reduceBEq, QOp.loads, boxO, bslO, buildO, cutL, fillV, putL, w85, v85, R, ht', i64w]
    rw [hT]
    exact ⟨_, rfl, (Fresh.nil _ encClip_len (by omega)).mono e1⟩
theorem mem_num {k : Int} (h : 0 ≤ k) : True := trivial
theorem Slip1_ok (h : Heap) (k : Clip) (n : Int) (p : Value) (hk : clipOk k) (hn : -10000000 ≤ n ∧ n ≤ 10000000) (hp : ∀ L, ldV (h.more L) p = some (.int .i64 n)) :
    ACall Try.prog 86 [.agg (encClip k).toArray, p] h fun r h' => Ext h h' ∧ r = .agg (encClip ⟨k.src, k.inn + n, k.len⟩).toArray := by
  obtain ⟨a, b, c⟩ := k
  simp only [clipOk] at hk
  refine ACall.of Try.func86 s86 (of_decide_eq_true rfl) ?_
  simp (maxSteps := 4000000) (disch := omega) only [ah, am, Nat.reduceEqDiff, reduceCtorEq, Nat.reduceAdd, Nat.reduceLeDiff, Nat.reduceMul, Nat.reduceLT, if_true, if_false, true_and, and_true, and_self, Nat.reduceBEq, QOp.loads, boxO, bslO, buildO, cutL, fillV, putL, w86, v86, encClip, hp, i64w]
  exact Ext.more _ _
theorem longer_ok (h : Heap) (k : Clip) (n : Int) (hk : clipOk k) (hn : -10000000 ≤ n ∧ n ≤ 10000000) :
    ACall Try.prog 89 [.agg (encClip k).toArray, .int .i64 n] h fun r h' => h' = h.more [encClip ⟨k.src, k.inn, k.len + n⟩, encClip ⟨k.src, k.inn, k.len + n⟩] ∧ r = .agg (encClip ⟨k.src, k.inn, k.len + n⟩).toArray := by
  obtain ⟨a, b, c⟩ := k
  simp only [clipOk] at hk
  refine ACall.of Try.func89 s89 (of_decide_eq_true rfl) ?_
  simp (maxSteps := 4000000) (disch := omega) only [ah, am, Nat.reduceEqDiff, reduceCtorEq, Nat.reduceAdd, Nat.reduceLeDiff, Nat.reduceMul, Nat.reduceLT, if_true, if_false, true_and, and_true, and_self, Nat.reduceBEq, QOp.loads, boxO, bslO, buildO, cutL, fillV, putL, w89, v89, encClip, i64w]
theorem Ripple1_ok (h : Heap) (k : Clip) (n : Int) (p : Value) (hk : clipOk k) (hn : -10000000 ≤ n ∧ n ≤ 10000000) (hp : ∀ L, ldV (h.more L) p = some (.int .i64 n)) :
    ACall Try.prog 88 [.agg (encClip k).toArray, p] h fun r h' => Ext h h' ∧ r = .agg (encClip ⟨k.src, k.inn, k.len + n⟩).toArray := by
  have lo := fun h => longer_ok h k n hk hn
  obtain ⟨a, b, c⟩ := k
  refine ACall.of Try.func88 s88 (of_decide_eq_true rfl) ?_
  simp (maxSteps := 4000000) (disch := omega) only [ah, am, Nat.reduceEqDiff, reduceCtorEq, Nat.reduceAdd, Nat.reduceLeDiff, Nat.reduceMul, Nat.reduceLT, if_true, if_false, true_and, and_true, and_self, Nat.reduceBEq, QOp.loads, boxO, bslO, buildO, cutL, fillV, putL, w88, v88, encClip, hp, i64w]
  simp only [encClip] at lo
  refine stepC.of (lo _) ?_
  rintro _ _ ⟨rfl, rfl⟩
  simp (maxSteps := 4000000) (disch := omega) only [ah, am, Nat.reduceEqDiff, reduceCtorEq, Nat.reduceAdd, Nat.reduceLeDiff, Nat.reduceMul, Nat.reduceLT, if_true, if_false, true_and, and_true, and_self, Nat.reduceBEq, QOp.loads, boxO, bslO, buildO, cutL, fillV, putL, w88, v88, encClip]
  exact Ext.more _ _
theorem Slip_ok (h : Heap) (v : Value) (l : List Clip) (i n : Int) (s : SlT h encClip 3 v l) (hl : l.length ≤ 1100000) :
    ACall Try.prog 39 [v, .int .i64 i, .int .i64 n] h fun r h' => Pair h h' r (turnF l i n fun k => ⟨k.src, k.inn + n, k.len⟩) := by
  refine ACall.of Try.func39 s39 (of_decide_eq_true rfl) ?_
  simp (maxSteps := 4000000) (disch := omega) only [ah, am, Nat.reduceEqDiff, reduceCtorEq, Nat.reduceAdd, Nat.reduceLeDiff, Nat.reduceMul, Nat.reduceLT, if_true, if_false, true_and, and_true, and_self, Nat.reduceBEq, QOp.loads, boxO, bslO, buildO, cutL, fillV, putL, w39, v39]
  refine stepC.of (turnedClip_ok _ v l i n 86 _ (fun k => ⟨k.src, k.inn + n, k.len⟩) (s.ext (Ext.more h _)) hl ⟨_, Try.func86, rfl, by decide⟩ (fun hn h' k e hk => Slip1_ok h' k n _ hk hn (fun L => ?_))) ?_
  · have X := (e.trans (Ext.more h' L)).ld0
    rw [X.1]; rfl
  · rintro _ H ⟨rv, rfl, F⟩
    simp (maxSteps := 4000000) (disch := omega) only [ah, am, Nat.reduceEqDiff, reduceCtorEq, Nat.reduceAdd, Nat.reduceLeDiff, Nat.reduceMul, Nat.reduceLT, if_true, if_false, true_and, and_true, and_self, Nat.reduceBEq, QOp.loads, boxO, bslO, buildO, cutL, fillV, putL, w39, v39]
    exact ⟨rv, rfl, F.mono (Ext.more _ _)⟩
theorem Ripple_ok (h : Heap) (v : Value) (l : List Clip) (i n : Int) (s : SlT h encClip 3 v l) (hl : l.length ≤ 1100000) :
    ACall Try.prog 43 [v, .int .i64 i, .int .i64 n] h fun r h' => Pair h h' r (turnF l i n fun k => ⟨k.src, k.inn, k.len + n⟩) := by
  refine ACall.of Try.func43 s43 (of_decide_eq_true rfl) ?_
  simp (maxSteps := 4000000) (disch := omega) only [ah, am, Nat.reduceEqDiff, reduceCtorEq, Nat.reduceAdd, Nat.reduceLeDiff, Nat.reduceMul, Nat.reduceLT, if_true, if_false, true_and, and_true, and_self, Nat.reduceBEq, QOp.loads, boxO, bslO, buildO, cutL, fillV, putL, w43, v43]
  refine stepC.of (turnedClip_ok _ v l i n 88 _ (fun k => ⟨k.src, k.inn, k.len + n⟩) (s.ext (Ext.more h _)) hl ⟨_, Try.func88, rfl, by decide⟩ (fun hn h' k e hk => Ripple1_ok h' k n _ hk hn (fun L => ?_))) ?_
  · have X := (e.trans (Ext.more h' L)).ld0
    rw [X.1]; rfl
  · rintro _ H ⟨rv, rfl, F⟩
    simp (maxSteps := 4000000) (disch := omega) only [ah, am, Nat.reduceEqDiff, reduceCtorEq, Nat.reduceAdd, Nat.reduceLeDiff, Nat.reduceMul, Nat.reduceLT, if_true, if_false, true_and, and_true, and_self, Nat.reduceBEq, QOp.loads, boxO, bslO, buildO, cutL, fillV, putL, w43, v43]
    exact ⟨rv, rfl, F.mono (Ext.more _ _)⟩
end Go.Proofs.Ytknpombiomnkbaa
