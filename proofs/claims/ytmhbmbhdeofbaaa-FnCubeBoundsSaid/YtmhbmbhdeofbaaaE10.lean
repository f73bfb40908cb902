import Derived.Test.YtmhbmbhdeofbaaaE9
namespace Go.Proofs.Ytmhbmbhdeofbaaa
open Go Go.Ah
set_option linter.unusedSimpArgs false
set_option linter.unusedVariables false
set_option maxRecDepth 10000
set_option maxHeartbeats 4000000
/-! 46 loop.example/g00066/spec.l9DrawCube: parameters 1, live [0], slots [0:c, 1:c, 4:n, 5:t, 6:k] -/
def c46_0 : List SOper := [⟨some 2, .q (.mv (.c (.int .i64 0))), none⟩, ⟨some 3, .q (.mv (.c (.slice none 0 0))), none⟩]
def c46_1 : List SOper := [⟨some 7, .q (.mv (.t 0)), none⟩, ⟨some 8, .e (.call 38 [(.t 7), (.c (.int .i64 3))]), none⟩, ⟨some 9, .q (.bin .add (.c (.int .i64 2)) (.t 8)), none⟩, ⟨some 4, .q (.mv (.t 9)), none⟩]
def c46_2 : List SOper := [⟨some 10, .q (.mv (.t 0)), none⟩, ⟨some 11, .e (.call 37 [(.t 10), (.c (.int .i64 30))]), none⟩]
def c46_3 : List SOper := [⟨some 12, .a (.bsl 4 1 [(.int .i64 0), (.int .i64 0), (.int .i64 0), (.int .i64 0)] [(0, 1, (.c (.int .i64 1))), (1, 1, (.c (.int .i64 9))), (2, 1, (.c (.int .i64 10))), (3, 1, (.c (.int .i64 5)))]), none⟩, ⟨some 13, .q (.mv (.t 0)), none⟩, ⟨some 14, .e (.call 38 [(.t 13), (.c (.int .i64 4))]), none⟩, ⟨some 15, .q (.ia 1 (.t 12) (.t 14)), none⟩, ⟨some 16, .q (.ld (.t 15)), none⟩, ⟨some 4, .q (.mv (.t 16)), none⟩]
def c46_4 : SCode := .cond (.t 11) (.region c46_3 [0, 4]) .skip
def c46_5 : SCode := .seq (.region c46_2 [0, 4, 11]) c46_4
def c46_6 : List SOper := [⟨some 17, .q (.mv (.t 4)), none⟩, ⟨some 18, .e (.call 55 [(.t 17)]), none⟩, ⟨some 5, .q (.mv (.t 18)), none⟩]
def c46_7 : List SOper := [⟨some 19, .q (.mv (.t 0)), none⟩, ⟨some 20, .e (.call 38 [(.t 19), (.c (.int .i64 30))]), none⟩, ⟨some 6, .q (.mv (.t 20)), none⟩]
def c46_8 : List SOper := [⟨some 21, .q (.mv (.t 6)), none⟩, ⟨some 22, .q (.bin .gtr (.t 21) (.c (.int .i64 0))), none⟩, ⟨some 23, .q (.mv (.t 22)), none⟩, ⟨some 24, .q (.mv (.t 5)), some (23, true)⟩, ⟨some 25, .q (.len (.t 24)), some (23, true)⟩, ⟨some 26, .q (.bin .gtr (.t 25) (.c (.int .i64 0))), some (23, true)⟩, ⟨some 27, .q (.pick (.t 23) (.t 26) (.c (.bool false))), none⟩]
def c46_9 : SCode := .cond (.t 27) .skip (.exit 0)
def c46_10 : SCode := .seq (.region c46_8 [0, 4, 5, 6, 27]) c46_9
def c46_11 : List SOper := [⟨some 30, .q (.mv (.t 5)), none⟩, ⟨some 31, .q (.mv (.t 0)), none⟩, ⟨some 32, .q (.mv (.t 5)), none⟩, ⟨some 33, .q (.len (.t 32)), none⟩, ⟨some 34, .e (.call 38 [(.t 31), (.t 33)]), none⟩, ⟨some 35, .q (.mv (.t 0)), none⟩, ⟨some 36, .e (.call 53 [(.t 35)]), none⟩, ⟨some 37, .q (.mv (.t 0)), none⟩, ⟨some 38, .e (.call 53 [(.t 37)]), none⟩, ⟨some 39, .q (.mv (.t 0)), none⟩, ⟨some 40, .e (.call 53 [(.t 39)]), none⟩, ⟨some 41, .q (.build [(.int .i64 0), (.int .i64 0), (.int .i64 0)] [(0, 1, (.t 36)), (1, 1, (.t 38)), (2, 1, (.t 40))]), none⟩, ⟨some 42, .q (.ia 3 (.t 30) (.t 34)), none⟩, ⟨none, .e (.st 3 (.t 42) (.t 41)), none⟩]
def c46_12 : SCode := .block 1 (.region c46_11 [0, 4, 5, 6])
def c46_13 : List SOper := [⟨some 28, .q (.mv (.t 6)), none⟩, ⟨some 29, .q (.bin .sub (.t 28) (.c (.int .i64 1))), none⟩, ⟨some 6, .q (.mv (.t 29)), none⟩]
def c46_14 : SCode := .seq c46_12 (.region c46_13 [0, 4, 5, 6])
def c46_15 : SCode := .seq c46_10 c46_14
def c46_16 : SCode := .loop c46_15
def c46_17 : SCode := .block 0 c46_16
def c46_18 : SCode := .seq (.region c46_7 [0, 4, 5, 6]) c46_17
def c46_19 : List SOper := [⟨some 43, .q (.mv (.t 0)), none⟩, ⟨some 44, .e (.call 37 [(.t 43), (.c (.int .i64 24))]), none⟩, ⟨some 45, .q (.mv (.t 44)), none⟩, ⟨some 46, .q (.mv (.t 5)), some (45, true)⟩, ⟨some 47, .q (.len (.t 46)), some (45, true)⟩, ⟨some 48, .q (.bin .gtr (.t 47) (.c (.int .i64 0))), some (45, true)⟩, ⟨some 49, .q (.pick (.t 45) (.t 48) (.c (.bool false))), none⟩]
def c46_20 : List SOper := [⟨some 50, .q (.mv (.t 0)), none⟩, ⟨some 51, .e (.call 38 [(.t 50), (.c (.int .i64 2))]), none⟩]
def c46_21 : List SOper := [⟨some 53, .q (.bin .eql (.t 51) (.c (.int .i64 0))), none⟩, ⟨some 52, .q (.mv (.t 53)), none⟩]
def c46_22 : List SOper := [⟨some 54, .q (.mv (.t 5)), none⟩, ⟨some 55, .q (.slc 3 (.t 54) (some (.c (.int .i64 1))) none), none⟩, ⟨some 5, .q (.mv (.t 55)), none⟩]
def c46_23 : List SOper := [⟨some 57, .q (.bin .eql (.t 51) (.c (.int .i64 1))), none⟩, ⟨some 56, .q (.mv (.t 57)), none⟩]
def c46_24 : List SOper := [⟨some 58, .q (.mv (.t 5)), none⟩, ⟨some 59, .q (.ia 3 (.t 58) (.c (.int .i64 0))), none⟩, ⟨some 60, .q (.fa 0 (.t 59)), none⟩, ⟨none, .e (.st 1 (.t 60) (.c (.int .i64 65536))), none⟩]
def c46_25 : SCode := .cond (.t 56) (.region c46_24 [4, 5]) .skip
def c46_26 : SCode := .seq (.region c46_23 [4, 5, 56]) c46_25
def c46_27 : SCode := .cond (.t 52) (.region c46_22 [4, 5]) c46_26
def c46_28 : SCode := .seq (.region c46_21 [4, 5, 51, 52]) c46_27
def c46_29 : SCode := .block 2 c46_28
def c46_30 : SCode := .seq (.region c46_20 [4, 5, 51]) c46_29
def c46_31 : SCode := .cond (.t 49) c46_30 .skip
def c46_32 : SCode := .seq (.region c46_19 [0, 4, 5, 49]) c46_31
def c46_33 : List SOper := [⟨some 61, .q (.mv (.t 4)), none⟩, ⟨some 62, .q (.mv (.t 5)), none⟩, ⟨some 2, .q (.mv (.t 61)), none⟩, ⟨some 3, .q (.mv (.t 62)), none⟩]
def c46_34 : SCode := .seq (.region c46_33 [2, 3]) .ret
def c46_35 : SCode := .seq c46_32 c46_34
def c46_36 : SCode := .seq c46_18 c46_35
def c46_37 : SCode := .seq (.region c46_6 [0, 4, 5]) c46_36
def c46_38 : SCode := .seq c46_5 c46_37
def c46_39 : SCode := .seq (.region c46_1 [0, 4]) c46_38
def c46_40 : SCode := .seq (.region c46_0 [0]) c46_39
def c46 : SCode := c46_40
theorem w46 : type_of% (And.intro (uR Try.prog c46_0.eq_1) (And.intro (uR Try.prog c46_1.eq_1) (And.intro (uR Try.prog c46_2.eq_1) (And.intro (uR Try.prog c46_3.eq_1) (And.intro (uC Try.prog c46_4.eq_1) (And.intro (uC Try.prog c46_5.eq_1) (And.intro (uR Try.prog c46_6.eq_1) (And.intro (uR Try.prog c46_7.eq_1) (And.intro (uR Try.prog c46_8.eq_1) (And.intro (uC Try.prog c46_9.eq_1) (And.intro (uC Try.prog c46_10.eq_1) (And.intro (uR Try.prog c46_11.eq_1) (And.intro (uC Try.prog c46_12.eq_1) (And.intro (uR Try.prog c46_13.eq_1) (And.intro (uC Try.prog c46_14.eq_1) (And.intro (uC Try.prog c46_15.eq_1) (And.intro (uC Try.prog c46_16.eq_1) (And.intro (uC Try.prog c46_17.eq_1) (And.intro (uC Try.prog c46_18.eq_1) (And.intro (uR Try.prog c46_19.eq_1) (And.intro (uR Try.prog c46_20.eq_1) (And.intro (uR Try.prog c46_21.eq_1) (And.intro (uR Try.prog c46_22.eq_1) (And.intro (uR Try.prog c46_23.eq_1) (And.intro (uR Try.prog c46_24.eq_1) (And.intro (uC Try.prog c46_25.eq_1) (And.intro (uC Try.prog c46_26.eq_1) (And.intro (uC Try.prog c46_27.eq_1) (And.intro (uC Try.prog c46_28.eq_1) (And.intro (uC Try.prog c46_29.eq_1) (And.intro (uC Try.prog c46_30.eq_1) (And.intro (uC Try.prog c46_31.eq_1) (And.intro (uC Try.prog c46_32.eq_1) (And.intro (uR Try.prog c46_33.eq_1) (And.intro (uC Try.prog c46_34.eq_1) (And.intro (uC Try.prog c46_35.eq_1) (And.intro (uC Try.prog c46_36.eq_1) (And.intro (uC Try.prog c46_37.eq_1) (And.intro (uC Try.prog c46_38.eq_1) (And.intro (uC Try.prog c46_39.eq_1) (And.intro (uC Try.prog c46_40.eq_1) (uC Try.prog c46.eq_1)))))))))))))))))))))))))))))))))))))))))) := (And.intro (uR Try.prog c46_0.eq_1) (And.intro (uR Try.prog c46_1.eq_1) (And.intro (uR Try.prog c46_2.eq_1) (And.intro (uR Try.prog c46_3.eq_1) (And.intro (uC Try.prog c46_4.eq_1) (And.intro (uC Try.prog c46_5.eq_1) (And.intro (uR Try.prog c46_6.eq_1) (And.intro (uR Try.prog c46_7.eq_1) (And.intro (uR Try.prog c46_8.eq_1) (And.intro (uC Try.prog c46_9.eq_1) (And.intro (uC Try.prog c46_10.eq_1) (And.intro (uR Try.prog c46_11.eq_1) (And.intro (uC Try.prog c46_12.eq_1) (And.intro (uR Try.prog c46_13.eq_1) (And.intro (uC Try.prog c46_14.eq_1) (And.intro (uC Try.prog c46_15.eq_1) (And.intro (uC Try.prog c46_16.eq_1) (And.intro (uC Try.prog c46_17.eq_1) (And.intro (uC Try.prog c46_18.eq_1) (And.intro (uR Try.prog c46_19.eq_1) (And.intro (uR Try.prog c46_20.eq_1) (And.intro (uR Try.prog c46_21.eq_1) (And.intro (uR Try.prog c46_22.eq_1) (And.intro (uR Try.prog c46_23.eq_1) (And.intro (uR Try.prog c46_24.eq_1) (And.intro (uC Try.prog c46_25.eq_1) (And.intro (uC Try.prog c46_26.eq_1) (And.intro (uC Try.prog c46_27.eq_1) (And.intro (uC Try.prog c46_28.eq_1) (And.intro (uC Try.prog c46_29.eq_1) (And.intro (uC Try.prog c46_30.eq_1) (And.intro (uC Try.prog c46_31.eq_1) (And.intro (uC Try.prog c46_32.eq_1) (And.intro (uR Try.prog c46_33.eq_1) (And.intro (uC Try.prog c46_34.eq_1) (And.intro (uC Try.prog c46_35.eq_1) (And.intro (uC Try.prog c46_36.eq_1) (And.intro (uC Try.prog c46_37.eq_1) (And.intro (uC Try.prog c46_38.eq_1) (And.intro (uC Try.prog c46_39.eq_1) (And.intro (uC Try.prog c46_40.eq_1) (uC Try.prog c46.eq_1))))))))))))))))))))))))))))))))))))))))))
def v46 : List RV := [.t 2, .t 3]
theorem s46 : slimF Try.prog Try.f46 = some (c46.bare, v46) := by kernel_rfl
/-! 20 loop.example/g00066/spec.DrawCube: parameters 1, live [0], slots [0:code, 1:code, 5:c, 6:n, 7:t] -/
def c20_0 : List SOper := [⟨some 2, .q (.mv (.c (.int .i64 0))), none⟩, ⟨some 3, .q (.mv (.c (.slice none 0 0))), none⟩, ⟨some 4, .a (.new [(.int .i64 0), (.int .i64 0), (.int .i64 0)]), none⟩]
def c20_1 : List SOper := [⟨some 8, .q (.mv (.t 0)), none⟩, ⟨some 9, .e (.call 35 [(.t 8)]), none⟩, ⟨some 5, .q (.mv (.t 9)), none⟩]
def c20_2 : List SOper := [⟨some 11, .q (.mv (.t 5)), none⟩, ⟨some 12, .e (.call 46 [(.t 11)]), none⟩, ⟨some 10, .q (.mv (.t 12)), none⟩, ⟨some 13, .q (.ext (.t 10) 0), none⟩, ⟨some 14, .q (.ext (.t 10) 1), none⟩, ⟨some 6, .q (.mv (.t 13)), none⟩, ⟨some 7, .q (.mv (.t 14)), none⟩]
def c20_3 : List SOper := [⟨some 15, .q (.mv (.t 6)), none⟩, ⟨some 16, .q (.mv (.t 7)), none⟩, ⟨some 17, .q (.mv (.t 5)), none⟩, ⟨some 18, .e (.call 39 [(.t 17)]), none⟩, ⟨some 2, .q (.mv (.t 15)), none⟩, ⟨some 3, .q (.mv (.t 16)), none⟩, ⟨none, .e (.st 3 (.t 4) (.t 18)), none⟩]
def c20_4 : SCode := .seq (.region c20_3 [2, 3, 4]) .ret
def c20_5 : SCode := .seq (.region c20_2 [4, 5, 6, 7]) c20_4
def c20_6 : SCode := .seq (.region c20_1 [4, 5]) c20_5
def c20_7 : SCode := .seq (.region c20_0 [0, 4]) c20_6
def c20 : SCode := c20_7
theorem w20 : type_of% (And.intro (uR Try.prog c20_0.eq_1) (And.intro (uR Try.prog c20_1.eq_1) (And.intro (uR Try.prog c20_2.eq_1) (And.intro (uR Try.prog c20_3.eq_1) (And.intro (uC Try.prog c20_4.eq_1) (And.intro (uC Try.prog c20_5.eq_1) (And.intro (uC Try.prog c20_6.eq_1) (And.intro (uC Try.prog c20_7.eq_1) (uC Try.prog c20.eq_1))))))))) := (And.intro (uR Try.prog c20_0.eq_1) (And.intro (uR Try.prog c20_1.eq_1) (And.intro (uR Try.prog c20_2.eq_1) (And.intro (uR Try.prog c20_3.eq_1) (And.intro (uC Try.prog c20_4.eq_1) (And.intro (uC Try.prog c20_5.eq_1) (And.intro (uC Try.prog c20_6.eq_1) (And.intro (uC Try.prog c20_7.eq_1) (uC Try.prog c20.eq_1)))))))))
def v20 : List RV := [.t 2, .t 3, .c 4 (some 3)]
theorem s20 : slimF Try.prog Try.f20 = some (c20.bare, v20) := by kernel_rfl

/-! ### What a cube gives lies between its nodes; a corner is a node -/
theorem cube_bounds {n : Int} {t : List Rgb} {c : Rgb} (ok : cubeOk n t c) (lo hi : Int) (hb : ∀ x ∈ t, lo ≤ x.g ∧ x.g ≤ hi) : lo ≤ (cubeF n t c).g ∧ (cubeF n t c).g ≤ hi := by
  rw [show cubeF n t c = cubeL n t c from if_pos ok]
  obtain ⟨c1, hl, ⟨u1, u2, u3⟩, ht⟩ := ok
  have P0 := place_b (v := c.r) (n := n - 1) u1 (by omega)
  have P1 := place_b (v := c.g) (n := n - 1) u2 (by omega)
  have P2 := place_b (v := c.b) (n := n - 1) u3 (by omega)
  have hw : Way n (atF n c) (restF n c) := way c1 (by omega) (by omega) (by omega) P0.2 P1.2 P2.2
  have key : ∀ k, k ≤ 3 → lo * (lftF (restF n c) k - nxtF (restF n c) k) ≤ (t.getD (idxF n (atF n c) (restF n c) k).toNat zRgb).g * (lftF (restF n c) k - nxtF (restF n c) k) ∧ (t.getD (idxF n (atF n c) (restF n c) k).toNat zRgb).g * (lftF (restF n c) k - nxtF (restF n c) k) ≤ hi * (lftF (restF n c) k - nxtF (restF n c) k) := by
    intro k hk
    obtain ⟨x1, x2⟩ := hw.ix k hk
    have hx : t.getD (idxF n (atF n c) (restF n c) k).toNat zRgb ∈ t := by rw [getD_atE (by omega)]; exact List.getElem_mem _
    have hq := hb _ hx
    have w0 := (hw.wt k hk).2.1
    exact ⟨Int.mul_le_mul_of_nonneg_right hq.1 w0, Int.mul_le_mul_of_nonneg_right hq.2 w0⟩
  have k0 := key 0 (by omega); have k1 := key 1 (by omega); have k2 := key 2 (by omega); have k3 := key 3 (by omega)
  have tot := hw.tot
  have e4 : sumF n (atF n c) (restF n c) t (·.g) 4 = 0 + (t.getD (idxF n (atF n c) (restF n c) 0).toNat zRgb).g * (lftF (restF n c) 0 - nxtF (restF n c) 0) + (t.getD (idxF n (atF n c) (restF n c) 1).toNat zRgb).g * (lftF (restF n c) 1 - nxtF (restF n c) 1) +
    (t.getD (idxF n (atF n c) (restF n c) 2).toNat zRgb).g * (lftF (restF n c) 2 - nxtF (restF n c) 2) + (t.getD (idxF n (atF n c) (restF n c) 3).toNat zRgb).g * (lftF (restF n c) 3 - nxtF (restF n c) 3) := rfl
  change lo ≤ near (sumF n (atF n c) (restF n c) t (·.g) 4) 65535 ∧ near (sumF n (atF n c) (restF n c) t (·.g) 4) 65535 ≤ hi
  rw [e4]
  generalize lftF (restF n c) 0 - nxtF (restF n c) 0 = w0 at *
  generalize lftF (restF n c) 1 - nxtF (restF n c) 1 = w1 at *
  generalize lftF (restF n c) 2 - nxtF (restF n c) 2 = w2 at *
  generalize lftF (restF n c) 3 - nxtF (restF n c) 3 = w3 at *
  have m1 : lo * w0 + lo * w1 + lo * w2 + lo * w3 = lo * 65535 := by rw [← Int.mul_add, ← Int.mul_add, ← Int.mul_add, tot]
  have m2 : hi * w0 + hi * w1 + hi * w2 + hi * w3 = hi * 65535 := by rw [← Int.mul_add, ← Int.mul_add, ← Int.mul_add, tot]
  unfold near
  omega
theorem near_full (x : Int) : near (x * 65535) 65535 = x := by unfold near; omega
theorem corner0 {n : Int} {t : List Rgb} (ok : cubeOk n t zRgb) : cubeF n t zRgb = t.getD 0 zRgb := by
  rw [show cubeF n t zRgb = cubeL n t zRgb from if_pos ok]
  obtain ⟨c1, hl, _, ht⟩ := ok
  have p0 : placeI 0 (n - 1) = 0 := by unfold placeI; rw [Int.zero_mul]; omega
  have p1 : placeR 0 (n - 1) = 0 := by unfold placeR; rw [p0]; omega
  have ea : atF n zRgb = [0, 0, 0] := by simp [atF, zRgb, p0]
  have er : restF n zRgb = [0, 0, 0] := by simp [restF, zRgb, p1]
  have key : ∀ f : Rgb → Int, sumF n [0, 0, 0] [0, 0, 0] t f 4 = f (t.getD 0 zRgb) * 65535 := by
    intro f
    have e4 : sumF n [0, 0, 0] [0, 0, 0] t f 4 = 0 + f (t.getD (idxF n [0, 0, 0] [0, 0, 0] 0).toNat zRgb) * (65535 - 0) + f (t.getD (idxF n [0, 0, 0] [0, 0, 0] 1).toNat zRgb) * (0 - 0) +
      f (t.getD (idxF n [0, 0, 0] [0, 0, 0] 2).toNat zRgb) * (0 - 0) + f (t.getD (idxF n [0, 0, 0] [0, 0, 0] 3).toNat zRgb) * (0 - 0) := rfl
    have e0 : idxF n [0, 0, 0] [0, 0, 0] 0 = 0 := by simp [idxF]
    rw [e4, e0]
    simp
  rw [cubeL, ea, er, key, key, key, near_full, near_full, near_full]
theorem corner1 {n : Int} {t : List Rgb} (ok : cubeOk n t ⟨65535, 65535, 65535⟩) : cubeF n t ⟨65535, 65535, 65535⟩ = t.getD (n * n * n - 1).toNat zRgb := by
  rw [show cubeF n t ⟨65535, 65535, 65535⟩ = cubeL n t ⟨65535, 65535, 65535⟩ from if_pos ok]
  obtain ⟨c1, hl, _, ht⟩ := ok
  have p0 : placeI 65535 (n - 1) = n - 2 := by unfold placeI; omega
  have p1 : placeR 65535 (n - 1) = 65535 := by unfold placeR; rw [p0]; omega
  have ea : atF n ⟨65535, 65535, 65535⟩ = [n - 2, n - 2, n - 2] := by simp [atF, p0]
  have er : restF n ⟨65535, 65535, 65535⟩ = [65535, 65535, 65535] := by simp [restF, p1]
  have key : ∀ f : Rgb → Int, sumF n [n - 2, n - 2, n - 2] [65535, 65535, 65535] t f 4 = f (t.getD (n * n * n - 1).toNat zRgb) * 65535 := by
    intro f
    have e4 : sumF n [n - 2, n - 2, n - 2] [65535, 65535, 65535] t f 4 = 0 + f (t.getD (idxF n [n - 2, n - 2, n - 2] [65535, 65535, 65535] 0).toNat zRgb) * (65535 - 65535) + f (t.getD (idxF n [n - 2, n - 2, n - 2] [65535, 65535, 65535] 1).toNat zRgb) * (65535 - 65535) +
      f (t.getD (idxF n [n - 2, n - 2, n - 2] [65535, 65535, 65535] 2).toNat zRgb) * (65535 - 65535) + f (t.getD (idxF n [n - 2, n - 2, n - 2] [65535, 65535, 65535] 3).toNat zRgb) * (65535 - 0) := rfl
    have e3 : idxF n [n - 2, n - 2, n - 2] [65535, 65535, 65535] 3 = (n - 2) * (n * n) + (n - 2) * n + (n - 2) + n * n + n + 1 := rfl
    have e0 : idxF n [n - 2, n - 2, n - 2] [65535, 65535, 65535] 3 = n * n * n - 1 := by
      rw [e3]
      have hn8 : n = 2 ∨ n = 3 ∨ n = 4 ∨ n = 5 ∨ n = 6 ∨ n = 7 ∨ n = 8 ∨ n = 9 := by omega
      rcases hn8 with rfl | rfl | rfl | rfl | rfl | rfl | rfl | rfl <;> decide
    rw [e4, e0]
    simp
  rw [cubeL, ea, er, key, key, key, near_full, near_full, near_full]
/-! ### A cube that is drawn -/
def nodeOk (x : Rgb) (i : Nat) : Prop := 0 ≤ x.r ∧ (i = 0 ∨ x.r ≤ 65535) ∧ (0 ≤ x.g ∧ x.g ≤ 65535) ∧ (0 ≤ x.b ∧ x.b ≤ 65535)
theorem l9DrawCube_ok (h : Heap) (c : Nat) (k : Cur h c) : ACall Try.prog 46 [.pointer (some ⟨c, 0, none⟩)] h
    fun r h' => ∃ (n : Int) (tv : Value) (t : List Rgb), r = .tuple #[.int .i64 n, tv] ∧ (1 ≤ n ∧ n ≤ 10) ∧ Fk [c] h h' encRgb 3 tv t [] ∧ t.length ≤ 729 ∧ (∀ i (hi : i < t.length), nodeOk t[i] i) ∧ Cur h' c := by
  have hc := k.lt
  refine ACall.of Try.func46 s46 (of_decide_eq_true rfl) ?_
  simp (maxSteps := 4000000) (disch := omega) only [ah, am, Nat.reduceEqDiff, reduceCtorEq, Nat.reduceAdd, Nat.reduceLeDiff, Nat.reduceMul, Nat.reduceLT, if_true, if_false, true_and, and_true, and_self, Nat.reduceBEq, QOp.loads, boxO, bslO, buildO, cutL, fillV, putL, w46, v46]
  refine stepC.of (l1Below_ok _ _ _ k) ?_
  rintro _ H1 ⟨x, rfl, x0, x1, _, g1, k⟩
  have x1 := x1 (by omega)
  have X := toX1 g1
  have Wn : IntKind.i64.wrap (2 + x) = 2 + x := i64w (by omega)
  simp (maxSteps := 4000000) (disch := omega) only [ah, am, Nat.reduceEqDiff, reduceCtorEq, Nat.reduceAdd, Nat.reduceLeDiff, Nat.reduceMul, Nat.reduceLT, if_true, if_false, true_and, and_true, and_self, Nat.reduceBEq, QOp.loads, boxO, bslO, buildO, cutL, fillV, putL, w46, v46, Wn]
  refine stepC.of (l1Once_ok _ _ _ k) ?_
  rintro _ H2 ⟨b, rfl, g2, k⟩
  have X := X.trans (toX1 g2)
  simp (maxSteps := 4000000) (disch := omega) only [ah, am, Nat.reduceEqDiff, reduceCtorEq, Nat.reduceAdd, Nat.reduceLeDiff, Nat.reduceMul, Nat.reduceLT, if_true, if_false, true_and, and_true, and_self, Nat.reduceBEq, QOp.loads, boxO, bslO, buildO, cutL, fillV, putL, w46, v46]
  refine SW_if (fun E K => ∃ n : Int, (1 ≤ n ∧ n ≤ 10) ∧ ExtX [c] h K ∧ Cur K c ∧ ∃ t, E = (0, .pointer (some ⟨c, 0, none⟩)) :: (4, .int .i64 n) :: t) (fun hb => ?_) (fun hb => ?_) ?_
  · simp (maxSteps := 4000000) (disch := omega) only [ah, am, Nat.reduceEqDiff, reduceCtorEq, Nat.reduceAdd, Nat.reduceLeDiff, Nat.reduceMul, Nat.reduceLT, if_true, if_false, true_and, and_true, and_self, Nat.reduceBEq, QOp.loads, boxO, bslO, buildO, cutL, fillV, putL, w46, v46]
    have eM := Ext.more H2 [[.int .i64 1, .int .i64 9, .int .i64 10, .int .i64 5]]
    have Bl : Bx (H2.more [[.int .i64 1, .int .i64 9, .int .i64 10, .int .i64 5]]) H2.size [.int .i64 1, .int .i64 9, .int .i64 10, .int .i64 5] := Bx.new _ _ _
    have hK := k.lt
    refine stepC.of (l1Below_ok _ _ _ (k.ext eM)) ?_
    rintro _ K3 ⟨y, rfl, y0, y1, _, g2, k⟩
    have y1 := y1 (by omega)
    have Bl := Bl.step g2 (by omega)
    obtain ⟨z, hz, hz2⟩ : ∃ z : Int, ldV K3 (.pointer (some ⟨H2.size, y.toNat, none⟩)) = some (.int .i64 z) ∧ 1 ≤ z ∧ z ≤ 10 := by
      have h6 : y = 0 ∨ y = 1 ∨ y = 2 ∨ y = 3 := by omega
      rcases h6 with rfl | rfl | rfl | rfl <;> exact ⟨_, by rw [Bl.ld.1]; rfl, by omega, by omega⟩
    simp (maxSteps := 4000000) (disch := omega) only [ah, am, Nat.reduceEqDiff, reduceCtorEq, Nat.reduceAdd, Nat.reduceLeDiff, Nat.reduceMul, Nat.reduceLT, if_true, if_false, true_and, and_true, and_self, Nat.reduceBEq, QOp.loads, boxO, bslO, buildO, cutL, fillV, putL, w46, v46, hz, Nat.mul_one]
    exact ⟨z, hz2, X.trans (eM.toX.trans (toX1 g2)), k, _, rfl⟩
  · exact ⟨2 + x, by omega, X, k, _, rfl⟩
  clear X k Wn
  rintro E K ⟨n, hn, X, k, t, rfl⟩
  simp (maxSteps := 4000000) (disch := omega) only [ah, am, Nat.reduceEqDiff, reduceCtorEq, Nat.reduceAdd, Nat.reduceLeDiff, Nat.reduceMul, Nat.reduceLT, if_true, if_false, true_and, and_true, and_self, Nat.reduceBEq, QOp.loads, boxO, bslO, buildO, cutL, fillV, putL, w46, v46]
  refine stepC.of (specPlain_ok _ n (by omega)) ?_
  intro tv K1 F
  have e0 := F.1
  have hlen : (plainF n).length ≤ 729 := by
    unfold plainF; split
    · rename_i c1; have := cubes c1; simp; omega
    · simp
  have hok : ∀ i (hi : i < (plainF n).length), nodeOk (plainF n)[i] i := by
    intro i hi
    by_cases c1 : 2 ≤ n ∧ n ≤ 9
    · have := plainF_ok c1 _ (List.getElem_mem hi)
      exact ⟨this.1.1, .inr this.1.2, this.2.1, this.2.2⟩
    · have : plainF n = [] := if_neg c1
      rw [this] at hi; simp at hi
  have F : Fk [c] h K1 encRgb 3 tv (plainF n) [] := (Fk.of F).mono X
  have k := k.ext e0
  simp (maxSteps := 4000000) (disch := omega) only [ah, am, Nat.reduceEqDiff, reduceCtorEq, Nat.reduceAdd, Nat.reduceLeDiff, Nat.reduceMul, Nat.reduceLT, if_true, if_false, true_and, and_true, and_self, Nat.reduceBEq, QOp.loads, boxO, bslO, buildO, cutL, fillV, putL, w46, v46]
  refine stepC.of (l1Below_ok _ _ _ k) ?_
  rintro _ K2 ⟨x, rfl, x0, x1, _, g2, k⟩
  have x1 := x1 (by omega)
  obtain ⟨xn, rfl⟩ : ∃ m : Nat, x = (m : Int) := ⟨x.toNat, by omega⟩
  have F := F.stepG g2 (by simp) hc
  simp (maxSteps := 4000000) (disch := omega) only [ah, am, Nat.reduceEqDiff, reduceCtorEq, Nat.reduceAdd, Nat.reduceLeDiff, Nat.reduceMul, Nat.reduceLT, if_true, if_false, true_and, and_true, and_self, Nat.reduceBEq, QOp.loads, boxO, bslO, buildO, cutL, fillV, putL, w46, v46]
  generalize plainF n = p at F hlen hok
  refine ⟨fun m E K => m ≤ 30 ∧ ∃ p, Fk [c] h K encRgb 3 tv p [] ∧ p.length ≤ 729 ∧ (∀ i (hi : i < p.length), nodeOk p[i] i) ∧ Cur K c ∧ E = [(0, .pointer (some ⟨c, 0, none⟩)), (4, .int .i64 n), (5, tv), (6, .int .i64 (m : Int))],
    ⟨xn, by omega, p, F, hlen, hok, k, rfl⟩, ?_⟩
  clear F hlen hok k x0 x1 g2 p
  rintro m E K ⟨hm, p, F, hlen, hok, k, rfl⟩
  have R := F.slt.rulesN
  have after : ∀ (Q : Go.Exit → Env → Heap → Prop), True := fun _ => trivial
  by_cases hm0 : (0 : Int) < m
  · by_cases hp0 : (0 : Int) < p.length
    · simp (maxSteps := 4000000) (disch := omega) only [ah, am, Nat.reduceEqDiff, reduceCtorEq, Nat.reduceAdd, Nat.reduceLeDiff, Nat.reduceMul, Nat.reduceLT, if_true, if_false, true_and, and_true, and_self, Nat.reduceBEq, QOp.loads, boxO, bslO, buildO, cutL, fillV, putL, w46, v46, decide_eq_true hm0, R.1, decide_eq_true hp0]
      refine stepC.of (l1Below_ok _ _ _ k) ?_
      rintro _ K3 ⟨j, rfl, j0, j1, _, g3, k⟩
      have j1 := j1 hp0
      obtain ⟨j, rfl⟩ : ∃ m : Nat, j = (m : Int) := ⟨j.toNat, by omega⟩
      have F := F.stepG g3 (by simp) hc
      simp (maxSteps := 4000000) (disch := omega) only [ah, am, Nat.reduceEqDiff, reduceCtorEq, Nat.reduceAdd, Nat.reduceLeDiff, Nat.reduceMul, Nat.reduceLT, if_true, if_false, true_and, and_true, and_self, Nat.reduceBEq, QOp.loads, boxO, bslO, buildO, cutL, fillV, putL, w46, v46]
      refine stepC.of (l9DrawValue_ok _ _ k) ?_
      rintro _ K4 ⟨r1, rfl, b1, g4, k⟩
      have F := F.stepG g4 (by simp) hc
      simp (maxSteps := 4000000) (disch := omega) only [ah, am, Nat.reduceEqDiff, reduceCtorEq, Nat.reduceAdd, Nat.reduceLeDiff, Nat.reduceMul, Nat.reduceLT, if_true, if_false, true_and, and_true, and_self, Nat.reduceBEq, QOp.loads, boxO, bslO, buildO, cutL, fillV, putL, w46, v46]
      refine stepC.of (l9DrawValue_ok _ _ k) ?_
      rintro _ K5 ⟨r2, rfl, b2, g5, k⟩
      have F := F.stepG g5 (by simp) hc
      simp (maxSteps := 4000000) (disch := omega) only [ah, am, Nat.reduceEqDiff, reduceCtorEq, Nat.reduceAdd, Nat.reduceLeDiff, Nat.reduceMul, Nat.reduceLT, if_true, if_false, true_and, and_true, and_self, Nat.reduceBEq, QOp.loads, boxO, bslO, buildO, cutL, fillV, putL, w46, v46]
      refine stepC.of (l9DrawValue_ok _ _ k) ?_
      rintro _ K6 ⟨r3, rfl, b3, g6, k⟩
      have F := F.stepG g6 (by simp) hc
      have R := F.slt.rulesN
      obtain ⟨K7, es, F7, g7, hg7, G7⟩ := F.set (j := j) (by omega) ⟨r1, r2, r3⟩ rfl
      simp only [encRgb] at es
      obtain ⟨m, rfl⟩ : ∃ m', m = m' + 1 := ⟨m - 1, by omega⟩
      have Wm : IntKind.i64.wrap (((m + 1 : Nat) : Int) - 1) = (m : Int) := i64e (by omega) (by omega)
      simp (maxSteps := 4000000) (disch := omega) only [ah, am, Nat.reduceEqDiff, reduceCtorEq, Nat.reduceAdd, Nat.reduceLeDiff, Nat.reduceMul, Nat.reduceLT, if_true, if_false, true_and, and_true, and_self, Nat.reduceBEq, QOp.loads, boxO, bslO, buildO, cutL, fillV, putL, w46, v46, R, es, Wm]
      refine ⟨m, by omega, by omega, _, F7, by simpa using hlen, fun i hi => ?_, k.stepG G7 (by omega), rfl⟩
      simp only [List.length_set] at hi
      rw [List.getElem_set]
      split
      · exact ⟨b1.1, .inr b1.2, b2, b3⟩
      · exact hok i hi
    · simp (maxSteps := 4000000) (disch := omega) only [ah, am, Nat.reduceEqDiff, reduceCtorEq, Nat.reduceAdd, Nat.reduceLeDiff, Nat.reduceMul, Nat.reduceLT, if_true, if_false, true_and, and_true, and_self, Nat.reduceBEq, QOp.loads, boxO, bslO, buildO, cutL, fillV, putL, w46, v46, decide_eq_true hm0, R.1, decide_eq_false hp0]
      refine stepC.of (l1Once_ok _ _ _ k) ?_
      rintro _ K3 ⟨b, rfl, g3, k⟩
      have F := F.stepG g3 (by simp) hc
      have R := F.slt.rulesN
      cases b with
      | false =>
        simp (maxSteps := 4000000) (disch := omega) only [ah, am, Nat.reduceEqDiff, reduceCtorEq, Nat.reduceAdd, Nat.reduceLeDiff, Nat.reduceMul, Nat.reduceLT, if_true, if_false, true_and, and_true, and_self, Nat.reduceBEq, QOp.loads, boxO, bslO, buildO, cutL, fillV, putL, w46, v46]
        exact ⟨n, tv, p, rfl, hn, F, hlen, hok, k⟩
      | true =>
        by_cases hp1 : (0 : Int) < p.length
        · simp (maxSteps := 4000000) (disch := omega) only [ah, am, Nat.reduceEqDiff, reduceCtorEq, Nat.reduceAdd, Nat.reduceLeDiff, Nat.reduceMul, Nat.reduceLT, if_true, if_false, true_and, and_true, and_self, Nat.reduceBEq, QOp.loads, boxO, bslO, buildO, cutL, fillV, putL, w46, v46, R.1, decide_eq_true hp1]
          refine stepC.of (l1Below_ok _ _ _ k) ?_
          rintro _ K4 ⟨y, rfl, y0, y1, _, g4, k⟩
          have y1 := y1 (by omega)
          have F := F.stepG g4 (by simp) hc
          have y2 : y = 0 ∨ y = 1 := by omega
          rcases y2 with rfl | rfl
          · obtain ⟨gg, q1, q2, q3⟩ := F.own
            obtain ⟨u, hu, ou⟩ := OwnT_from q2 1 (by omega) (by omega)
            have hu : slcV 3 tv (some (.int .i64 1)) none = some u := hu
            have F2 : Fk [c] h K4 encRgb 3 u (p.drop 1) [] := ⟨F.ext, ⟨gg, q1, ou, fun p hp => by cases hp⟩, fun p hp => by cases hp⟩
            simp (maxSteps := 4000000) (disch := omega) only [ah, am, Nat.reduceEqDiff, reduceCtorEq, Nat.reduceAdd, Nat.reduceLeDiff, Nat.reduceMul, Nat.reduceLT, if_true, if_false, true_and, and_true, and_self, Nat.reduceBEq, QOp.loads, boxO, bslO, buildO, cutL, fillV, putL, w46, v46, eq_self, decide_true, hu]
            refine ⟨n, u, p.drop 1, rfl, hn, F2, by simp; omega, fun i hi => ?_, k⟩
            simp only [List.length_drop] at hi
            have := hok (1 + i) (by omega)
            rw [List.getElem_drop]
            exact ⟨this.1, .inr (this.2.1.resolve_left (by omega)), this.2.2⟩
          · have R := F.slt.rulesN
            have A0 : iaV 3 tv (.int .i64 0) = some (ptrAt tv (0 * 3)) := R.2.1 .i64 0 (by omega)
            obtain ⟨K5, es, F5, g5, hg5, G5⟩ := F.setF (j := 0) (f := 0) (n := 1) (x := ⟨65536, p[0].g, p[0].b⟩) (y := .int .i64 65536) (by omega) rfl (by omega) rfl (by omega) rfl
            simp (maxSteps := 4000000) (disch := omega) only [ah, am, Nat.reduceEqDiff, reduceCtorEq, Nat.reduceAdd, Nat.reduceLeDiff, Nat.reduceMul, Nat.reduceLT, if_true, if_false, true_and, and_true, and_self, Nat.reduceBEq, QOp.loads, boxO, bslO, buildO, cutL, fillV, putL, w46, v46, eq_self, decide_true, show decide ((1 : Int) = 0) = false from rfl, A0, R.2.2.1, es]
            refine ⟨n, tv, _, rfl, hn, F5, by simpa using hlen, fun i hi => ?_, k.stepG G5 (by omega)⟩
            simp only [List.length_set] at hi
            rw [List.getElem_set]
            split
            · rename_i h0; subst h0
              have := hok 0 (by omega)
              exact ⟨by simp, .inl rfl, this.2.2⟩
            · exact hok i hi
        · simp (maxSteps := 4000000) (disch := omega) only [ah, am, Nat.reduceEqDiff, reduceCtorEq, Nat.reduceAdd, Nat.reduceLeDiff, Nat.reduceMul, Nat.reduceLT, if_true, if_false, true_and, and_true, and_self, Nat.reduceBEq, QOp.loads, boxO, bslO, buildO, cutL, fillV, putL, w46, v46, R.1, decide_eq_false hp1]
          exact ⟨n, tv, p, rfl, hn, F, hlen, hok, k⟩
  · simp (maxSteps := 4000000) (disch := omega) only [ah, am, Nat.reduceEqDiff, reduceCtorEq, Nat.reduceAdd, Nat.reduceLeDiff, Nat.reduceMul, Nat.reduceLT, if_true, if_false, true_and, and_true, and_self, Nat.reduceBEq, QOp.loads, boxO, bslO, buildO, cutL, fillV, putL, w46, v46, decide_eq_false hm0]
    refine stepC.of (l1Once_ok _ _ _ k) ?_
    rintro _ K3 ⟨b, rfl, g3, k⟩
    have F := F.stepG g3 (by simp) hc
    have R := F.slt.rulesN
    cases b with
    | false =>
      simp (maxSteps := 4000000) (disch := omega) only [ah, am, Nat.reduceEqDiff, reduceCtorEq, Nat.reduceAdd, Nat.reduceLeDiff, Nat.reduceMul, Nat.reduceLT, if_true, if_false, true_and, and_true, and_self, Nat.reduceBEq, QOp.loads, boxO, bslO, buildO, cutL, fillV, putL, w46, v46]
      exact ⟨n, tv, p, rfl, hn, F, hlen, hok, k⟩
    | true =>
      by_cases hp1 : (0 : Int) < p.length
      · simp (maxSteps := 4000000) (disch := omega) only [ah, am, Nat.reduceEqDiff, reduceCtorEq, Nat.reduceAdd, Nat.reduceLeDiff, Nat.reduceMul, Nat.reduceLT, if_true, if_false, true_and, and_true, and_self, Nat.reduceBEq, QOp.loads, boxO, bslO, buildO, cutL, fillV, putL, w46, v46, R.1, decide_eq_true hp1]
        refine stepC.of (l1Below_ok _ _ _ k) ?_
        rintro _ K4 ⟨y, rfl, y0, y1, _, g4, k⟩
        have y1 := y1 (by omega)
        have F := F.stepG g4 (by simp) hc
        have y2 : y = 0 ∨ y = 1 := by omega
        rcases y2 with rfl | rfl
        · obtain ⟨gg, q1, q2, q3⟩ := F.own
          obtain ⟨u, hu, ou⟩ := OwnT_from q2 1 (by omega) (by omega)
          have hu : slcV 3 tv (some (.int .i64 1)) none = some u := hu
          have F2 : Fk [c] h K4 encRgb 3 u (p.drop 1) [] := ⟨F.ext, ⟨gg, q1, ou, fun p hp => by cases hp⟩, fun p hp => by cases hp⟩
          simp (maxSteps := 4000000) (disch := omega) only [ah, am, Nat.reduceEqDiff, reduceCtorEq, Nat.reduceAdd, Nat.reduceLeDiff, Nat.reduceMul, Nat.reduceLT, if_true, if_false, true_and, and_true, and_self, Nat.reduceBEq, QOp.loads, boxO, bslO, buildO, cutL, fillV, putL, w46, v46, eq_self, decide_true, hu]
          refine ⟨n, u, p.drop 1, rfl, hn, F2, by simp; omega, fun i hi => ?_, k⟩
          simp only [List.length_drop] at hi
          have := hok (1 + i) (by omega)
          rw [List.getElem_drop]
          exact ⟨this.1, .inr (this.2.1.resolve_left (by omega)), this.2.2⟩
        · have R := F.slt.rulesN
          have A0 : iaV 3 tv (.int .i64 0) = some (ptrAt tv (0 * 3)) := R.2.1 .i64 0 (by omega)
          obtain ⟨K5, es, F5, g5, hg5, G5⟩ := F.setF (j := 0) (f := 0) (n := 1) (x := ⟨65536, p[0].g, p[0].b⟩) (y := .int .i64 65536) (by omega) rfl (by omega) rfl (by omega) rfl
          simp (maxSteps := 4000000) (disch := omega) only [ah, am, Nat.reduceEqDiff, reduceCtorEq, Nat.reduceAdd, Nat.reduceLeDiff, Nat.reduceMul, Nat.reduceLT, if_true, if_false, true_and, and_true, and_self, Nat.reduceBEq, QOp.loads, boxO, bslO, buildO, cutL, fillV, putL, w46, v46, eq_self, decide_true, show decide ((1 : Int) = 0) = false from rfl, A0, R.2.2.1, es]
          refine ⟨n, tv, _, rfl, hn, F5, by simpa using hlen, fun i hi => ?_, k.stepG G5 (by omega)⟩
          simp only [List.length_set] at hi
          rw [List.getElem_set]
          split
          · rename_i h0; subst h0
            have := hok 0 (by omega)
            exact ⟨by simp, .inl rfl, this.2.2⟩
          · exact hok i hi
      · simp (maxSteps := 4000000) (disch := omega) only [ah, am, Nat.reduceEqDiff, reduceCtorEq, Nat.reduceAdd, Nat.reduceLeDiff, Nat.reduceMul, Nat.reduceLT, if_true, if_false, true_and, and_true, and_self, Nat.reduceBEq, QOp.loads, boxO, bslO, buildO, cutL, fillV, putL, w46, v46, R.1, decide_eq_false hp1]
        exact ⟨n, tv, p, rfl, hn, F, hlen, hok, k⟩
theorem DrawCube_ok (h : Heap) (v : Value) (l : List Int) (s : SlT h encByte 1 v l) (hl : l.length ≤ 4096) : ACall Try.prog 20 [v] h
    fun r h' => ∃ (n : Int) (tv : Value) (t : List Rgb) (z : Rgb), r = .tuple #[.int .i64 n, tv, .agg (encRgb z).toArray] ∧ (1 ≤ n ∧ n ≤ 10) ∧ SlT h' encRgb 3 tv t ∧ t.length ≤ 729 ∧ (∀ i (hi : i < t.length), nodeOk t[i] i) ∧ (0 ≤ z.g ∧ z.g ≤ 65535) ∧ (0 ≤ z.b ∧ z.b ≤ 65535) ∧ (-9223372036854775808 ≤ z.r ∧ z.r ≤ 9223372036854775807) ∧ Ext h h' := by
  refine ACall.of Try.func20 s20 (of_decide_eq_true rfl) ?_
  simp (maxSteps := 4000000) (disch := omega) only [ah, am, Nat.reduceEqDiff, reduceCtorEq, Nat.reduceAdd, Nat.reduceLeDiff, Nat.reduceMul, Nat.reduceLT, if_true, if_false, true_and, and_true, and_self, Nat.reduceBEq, QOp.loads, boxO, bslO, buildO, cutL, fillV, putL, w20, v20]
  refine stepC.of (l1New_ok _ _ _ (s.ext (Ext.more h _)) hl) ?_
  rintro _ H1 ⟨e1, rfl, k⟩
  have B3 : Bx (h.more [[.int .i64 0, .int .i64 0, .int .i64 0]]) h.size [.int .i64 0, .int .i64 0, .int .i64 0] := Bx.new _ _ _
  have B3 := B3.ext e1
  have E1 := (Ext.more h [[.int .i64 0, .int .i64 0, .int .i64 0]]).trans e1
  rw [size_more]
  rw [size_more] at k
  obtain ⟨c, hc⟩ : ∃ c, c = h.size + [[Value.int .i64 0, .int .i64 0, .int .i64 0]].length := ⟨_, rfl⟩
  rw [← hc] at k ⊢
  have hc : c = h.size + 1 := hc
  have hlt := k.lt
  simp (maxSteps := 4000000) (disch := omega) only [ah, am, Nat.reduceEqDiff, reduceCtorEq, Nat.reduceAdd, Nat.reduceLeDiff, Nat.reduceMul, Nat.reduceLT, if_true, if_false, true_and, and_true, and_self, Nat.reduceBEq, QOp.loads, boxO, bslO, buildO, cutL, fillV, putL, w20, v20]
  refine stepC.of (l9DrawCube_ok _ _ k) ?_
  rintro _ H2 ⟨n, tv, t, rfl, hn, F, hlen, hok, k⟩
  have B3 := B3.step F.ext.toG (by omega)
  simp (maxSteps := 4000000) (disch := omega) only [ah, am, Nat.reduceEqDiff, reduceCtorEq, Nat.reduceAdd, Nat.reduceLeDiff, Nat.reduceMul, Nat.reduceLT, if_true, if_false, true_and, and_true, and_self, Nat.reduceBEq, QOp.loads, boxO, bslO, buildO, cutL, fillV, putL, w20, v20]
  refine stepC.of (l9DrawRgb_ok _ _ k) ?_
  rintro _ H3 ⟨z, rfl, z1, z2, z3, X2, k⟩
  have F := F.stepG X2.toG (by simp) hlt
  have B3 := B3.step X2.toG (by omega)
  obtain ⟨K3, es, B3, g⟩ := B3.put (o := 0) (n := 3) (y := .agg (encRgb z).toArray) rfl (by simp) rfl
  have V6 : ldnV K3 3 (.pointer (some ⟨h.size, 0, none⟩)) = some (.agg (encRgb z).toArray) := by rw [B3.ld.2]; rfl
  have hs := E1.1
  obtain ⟨gg, q1, q2, q3⟩ := F.own
  simp (maxSteps := 4000000) (disch := omega) only [ah, am, Nat.reduceEqDiff, reduceCtorEq, Nat.reduceAdd, Nat.reduceLeDiff, Nat.reduceMul, Nat.reduceLT, if_true, if_false, true_and, and_true, and_self, Nat.reduceBEq, QOp.loads, boxO, bslO, buildO, cutL, fillV, putL, w20, v20, es, V6]
  exact ⟨n, tv, t, z, rfl, hn, (q2.extG g (by omega)).slt, hlen, hok, z1, z2, z3, g.ext (F.ext.toG.ext E1 (by omega)) (by omega)⟩
end Go.Proofs.Ytmhbmbhdeofbaaa
