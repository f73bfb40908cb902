import Derived.Test.YtdagajblnlemaaaP8a
namespace Go.Proofs.Ytdagajblnlemaaa
open Go Go.Ah Go.RowKit Go.Shelf
attribute [local go_sem] Oper.semAt_some
set_option linter.unusedVariables false
set_option maxRecDepth 100000
set_option maxHeartbeats 8000000
theorem cellA {W : World} {a : Addr} {v : Value} (o : Go.Obj) (h : W.cell? a = some v) : (W.alloc o).cell? a = some v := cell_kept h (World.grownBy_alloc W o none) (fun r e => by cases e)
theorem frozenA {W : World} {a : Addr} {v : Value} (o : Go.Obj) (h : W.cell? a = some v) (hf : W.frozen? a = false) : (W.alloc o).frozen? a = false := (frozen_kept h (World.grownBy_alloc W o none) (fun r e => by cases e)).trans hf
/-- A store of a bool, behind a draw. -/
def stB (W : World) (p : Addr) (b : Bool) : World := ({ W with drawn := W.drawn + 1 } : World).setCell p (.bool b)
/-- One round of the loop, in the kit's words: what it reads, what it writes. -/
theorem round_in {r0 s r3 r4 r5 rest asg bdy : Code} {g : Operand} {ps : Array Tmp} (h : Try.f12.body = some (.seq r0 (.seq s (.seq r3 (.seq r4 (.seq (.seq r5 (.block 0 (.rangeFunc g ps asg bdy))) rest))))))
    (f : Nat → Value) (l n : Nat) (hn : 2 ≤ n) (x N wb wo cp pb po Bx : Nat) (k : Int) (ii jj : Nat) (fv : Nat) (row : Nat → Bool) (W : World) (Q : Exit → Act → World → Prop)
    (h3 : f 3 = .pointer (some ⟨pb, po, none⟩)) (hx : x < N) (hN : N ≤ 1000) (hi : ii < N) (hj : jj < N)
    (c0 : W.cell? ⟨pb, po, none⟩ = some (.slice (some ⟨wb, wo, none⟩) N cp)) (c1 : ∀ j, j < N → W.cell? ⟨wb, wo + j, none⟩ = some (.bool (row j)))
    (b0 : W.cell? ⟨Bx, 0, none⟩ = some (.int .i64 k)) (b1 : W.cell? ⟨Bx, 1, none⟩ = some (.int .i64 ii)) (b2 : W.cell? ⟨Bx, 2, none⟩ = some (.int .i64 jj)) (b3 : W.cell? ⟨Bx, 3, none⟩ = some (.float .f64 fv))
    (fz : ∀ j, j < N → W.frozen? ⟨wb, wo + j, none⟩ = false) (hpb : pb ≠ wb) (hBx : Bx ≠ wb) (hL : ∀ a w, ¬ Q .outgrown a w)
    (hF : row x = false → ∀ a, Q .normal a (W.alloc (.cells #[.int .i64 k, .int .i64 ii, .int .i64 jj, .float .f64 fv] 59)))
    (hT : row x = true → ∀ a, Q .normal a (stB (stB (W.alloc (.cells #[.int .i64 k, .int .i64 ii, .int .i64 jj, .float .f64 fv] 59)) ⟨wb, wo + ii, none⟩ (row ii || has1 k)) ⟨wb, wo + jj, none⟩ ((if jj = ii then row ii || has1 k else row jj) || has2 k))) :
    bdy.wpIn (Fence.wide.inRound l) n Try.prog Q { tmps := #[f 0, f 1, f 2, f 3, .int .i64 (x : Int), .pointer (some ⟨Bx, 0, none⟩), f 6, f 7, f 8, f 9, f 10, f 11, f 12, f 13, f 14, f 15, f 16, f 17, f 18, f 19, f 20, f 21, f 22, f 23, f 24, f 25, f 26, f 27, f 28, .int .i64 (x : Int), .agg #[.int .i64 k, .int .i64 (ii : Int), .int .i64 (jj : Int), .float .f64 fv], f 31, f 32, f 33, f 34, f 35, f 36, f 37, f 38, f 39, f 40, f 41, f 42, f 43, f 44, f 45, f 46, f 47, f 48, f 49, f 50, f 51, f 52, f 53, f 54, f 55, f 56, f 57, f 58, f 59, f 60, f 61, f 62, f 63, f 64, f 65, f 66, f 67, f 68, f 69, f 70, f 71, f 72, f 73, f 74, f 75, f 76, f 77, f 78, f 79, f 80, f 81, f 82, f 83, f 84, f 85, f 86, f 87, f 88, f 89, f 90, f 91, f 92, f 93, f 94, f 95, f 96, f 97, f 98, f 99, f 100, f 101, f 102, f 103, f 104, f 105, f 106, f 107, f 108, f 109, f 110, f 111], defers := [] } W := by
  cases h
  have hcall := CallsIn.inRound (F := Fence.wide) l (takes_in Fence.wide (n - 1) trivial rfl k ii jj fv W)
  have keep : ∀ p v, W.cell? p = some v → (W.alloc (.cells #[.int .i64 k, .int .i64 ii, .int .i64 jj, .float .f64 fv] 59)).cell? p = some v := fun p v e => cellA _ e
  gi_wp2
  refine ⟨trivial, (fun q => by cases q), hcall.mono ?_⟩
  rintro e w' ⟨rfl, rfl⟩
  have d0 := keep _ _ c0
  have d1 := fun j hj => keep _ _ (c1 j hj)
  have e0 := keep _ _ b0
  have e1 := keep _ _ b1
  have e2 := keep _ _ b2
  have e3 := keep _ _ b3
  have g1 := fun j (hj : j < N) => frozenA (.cells #[.int .i64 k, .int .i64 ii, .int .i64 jj, .float .f64 fv] 59) (c1 j hj) (fz j hj)
  clear keep
  generalize W.alloc (.cells #[.int .i64 k, .int .i64 ii, .int .i64 jj, .float .f64 fv] 59) = W2 at *
  have dx := d1 x hx
  cases hr : row x with
  | false =>
    rw [hr] at dx
    gi_wp2
    exact hF hr _
  | true =>
    rw [hr] at dx
    have hm : Try.prog.follows .mixedOrders = true := by kernel_rfl
    have di := d1 ii hi
    have dj := d1 jj hj
    have gi := g1 ii hi
    have gj := g1 jj hj
    gi_wp2
    obtain ⟨W3, hW3⟩ : ∃ q, q = ({ W2 with drawn := W2.drawn + 1 } : World) := ⟨_, rfl⟩
    have o0 : W3.cell? ⟨pb, po, none⟩ = some (.slice (some ⟨wb, wo, none⟩) N cp) := by rw [hW3]; exact d0
    have o1 : W3.cell? ⟨Bx, 1, none⟩ = some (.int .i64 (ii : Int)) := by rw [hW3]; exact e1
    have o2 : W3.cell? ⟨wb, wo + ii, none⟩ = some (.bool (row ii)) := by rw [hW3]; exact di
    have o3 : W3.frozen? ⟨wb, wo + ii, none⟩ = false := by rw [hW3]; exact gi
    have o4 : W3.cell? ⟨Bx, 2, none⟩ = some (.int .i64 (jj : Int)) := by rw [hW3]; exact e2
    have o5 : W3.cell? ⟨wb, wo + jj, none⟩ = some (.bool (row jj)) := by rw [hW3]; exact dj
    have o6 : W3.frozen? ⟨wb, wo + jj, none⟩ = false := by rw [hW3]; exact gj
    have hT2 : ∀ a, Q .normal a (stB (W3.setCell ⟨wb, wo + ii, none⟩ (.bool (row ii || has1 k))) ⟨wb, wo + jj, none⟩ ((if jj = ii then row ii || has1 k else row jj) || has2 k)) := by
      intro a; have := hT hr a; unfold stB at this ⊢; rw [← hW3] at this; exact this
    refine region_tail_in (w1 := W3) 12 hm (by kernel_rfl) (by kernel_rfl) (fun ⟨a, w, h⟩ => hL a w h) hW3 ?_
    simp only [List.take_succ_cons, List.take_zero, List.drop_succ_cons, List.drop_zero]
    clear hW3 hT di gi dj gj
    cases hri : row ii with
    | false =>
      rw [hri] at o2
      repeat still_step
      try refine wpStill_nil ?_
      go_wp2
      obtain ⟨W4, hW4⟩ : ∃ q, q = W3.setCell ⟨wb, wo + ii, none⟩ (.bool (has1 k)) := ⟨_, rfl⟩
      rw [← hW4]
      have q0 : W4.cell? ⟨pb, po, none⟩ = some (.slice (some ⟨wb, wo, none⟩) N cp) := by
        rw [hW4, World.cell?_setCell_other (h := fun e => hpb (congrArg Addr.block e).symm)]; exact o0
      have q1 : W4.cell? ⟨Bx, 2, none⟩ = some (.int .i64 (jj : Int)) := by
        rw [hW4, World.cell?_setCell_other (h := fun e => hBx (congrArg Addr.block e).symm)]; exact o4
      have q2 : W4.cell? ⟨wb, wo + jj, none⟩ = some (.bool (if jj = ii then (has1 k) else row jj)) := by
        rw [hW4]
        by_cases e : jj = ii
        · rw [if_pos e, e]; exact World.cell?_setCell_same' _ _ _ (by rw [o2]; rfl)
        · rw [if_neg e, World.cell?_setCell_other (h := fun q => e (by have := congrArg Addr.off q; simp at this; omega))]; exact o5
      have q3 : W4.frozen? ⟨wb, wo + jj, none⟩ = false := by rw [hW4, World.frozen?_setCell]; exact o6
      obtain ⟨W5, hW5⟩ : ∃ q, q = ({ W4 with drawn := W4.drawn + 1 } : World) := ⟨_, rfl⟩
      have u0 : W5.cell? ⟨pb, po, none⟩ = some (.slice (some ⟨wb, wo, none⟩) N cp) := by rw [hW5]; exact q0
      have u1 : W5.cell? ⟨Bx, 2, none⟩ = some (.int .i64 (jj : Int)) := by rw [hW5]; exact q1
      have u2 : W5.cell? ⟨wb, wo + jj, none⟩ = some (.bool (if jj = ii then (has1 k) else row jj)) := by rw [hW5]; exact q2
      have u3 : W5.frozen? ⟨wb, wo + jj, none⟩ = false := by rw [hW5]; exact q3
      refine region_tail_in (w1 := W5) 12 hm (by kernel_rfl) (by kernel_rfl) (fun ⟨a, w, h⟩ => hL a w h) hW5 ?_
      simp only [List.take_succ_cons, List.take_zero, List.drop_succ_cons, List.drop_zero]
      have fin := hT2
      unfold stB at fin
      rw [hri, Bool.false_or, ← hW4, ← hW5] at fin
      clear hT2 hF hW4 hW5 q0 q1 q2 q3 o0 o1 o2 o3 o4 o5 o6 e0 e1 e2 e3 d0 d1 c0 c1 b0 b1 b2 b3 fz g1 hcall
      generalize (if jj = ii then (has1 k) else row jj) = rj at u2 fin
      cases rj with
      | false =>
        rw [Bool.false_or] at fin
        repeat still_step
        try refine wpStill_nil ?_
        go_wp2
        exact fin _
      | true =>
        rw [Bool.true_or] at fin
        repeat still_step
        try refine wpStill_nil ?_
        go_wp2
        exact fin _
    | true =>
      rw [hri] at o2
      repeat still_step
      try refine wpStill_nil ?_
      go_wp2
      obtain ⟨W4, hW4⟩ : ∃ q, q = W3.setCell ⟨wb, wo + ii, none⟩ (.bool true) := ⟨_, rfl⟩
      rw [← hW4]
      have q0 : W4.cell? ⟨pb, po, none⟩ = some (.slice (some ⟨wb, wo, none⟩) N cp) := by
        rw [hW4, World.cell?_setCell_other (h := fun e => hpb (congrArg Addr.block e).symm)]; exact o0
      have q1 : W4.cell? ⟨Bx, 2, none⟩ = some (.int .i64 (jj : Int)) := by
        rw [hW4, World.cell?_setCell_other (h := fun e => hBx (congrArg Addr.block e).symm)]; exact o4
      have q2 : W4.cell? ⟨wb, wo + jj, none⟩ = some (.bool (if jj = ii then true else row jj)) := by
        rw [hW4]
        by_cases e : jj = ii
        · rw [if_pos e, e]; exact World.cell?_setCell_same' _ _ _ (by rw [o2]; rfl)
        · rw [if_neg e, World.cell?_setCell_other (h := fun q => e (by have := congrArg Addr.off q; simp at this; omega))]; exact o5
      have q3 : W4.frozen? ⟨wb, wo + jj, none⟩ = false := by rw [hW4, World.frozen?_setCell]; exact o6
      obtain ⟨W5, hW5⟩ : ∃ q, q = ({ W4 with drawn := W4.drawn + 1 } : World) := ⟨_, rfl⟩
      have u0 : W5.cell? ⟨pb, po, none⟩ = some (.slice (some ⟨wb, wo, none⟩) N cp) := by rw [hW5]; exact q0
      have u1 : W5.cell? ⟨Bx, 2, none⟩ = some (.int .i64 (jj : Int)) := by rw [hW5]; exact q1
      have u2 : W5.cell? ⟨wb, wo + jj, none⟩ = some (.bool (if jj = ii then true else row jj)) := by rw [hW5]; exact q2
      have u3 : W5.frozen? ⟨wb, wo + jj, none⟩ = false := by rw [hW5]; exact q3
      refine region_tail_in (w1 := W5) 12 hm (by kernel_rfl) (by kernel_rfl) (fun ⟨a, w, h⟩ => hL a w h) hW5 ?_
      simp only [List.take_succ_cons, List.take_zero, List.drop_succ_cons, List.drop_zero]
      have fin := hT2
      unfold stB at fin
      rw [hri, Bool.true_or, ← hW4, ← hW5] at fin
      clear hT2 hF hW4 hW5 q0 q1 q2 q3 o0 o1 o2 o3 o4 o5 o6 e0 e1 e2 e3 d0 d1 c0 c1 b0 b1 b2 b3 fz g1 hcall
      generalize (if jj = ii then true else row jj) = rj at u2 fin
      cases rj with
      | false =>
        rw [Bool.false_or] at fin
        repeat still_step
        try refine wpStill_nil ?_
        go_wp2
        exact fin _
      | true =>
        rw [Bool.true_or] at fin
        repeat still_step
        try refine wpStill_nil ?_
        go_wp2
        exact fin _
end Go.Proofs.Ytdagajblnlemaaa
