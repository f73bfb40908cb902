import Derived.RangeFuncNested
import Derived.RangeFuncBound
import Derived.RangeFuncCalls
import Derived.RangeFuncLeaves
import Derived.Shelf.Abstract
import Derived.Shelf.RegionOpen
import Derived.WalkKit
import Derived.OwnWalkIn
import Derived.TacticsInMore
import Derived.LoopNIn
import Derived.LoopIn
import Derived.Test.YtdagajblnlemaaaProg
import Derived.Test.YtdagajblnlemaaaP5
import Derived.Test.YtdagajblnlemaaaAhW
namespace Go.Proofs.Ytdagajblnlemaaa
open Go Go.RowKit Go.Shelf
attribute [local go_sem] Oper.semAt_some
/-- Nothing but one block may turn. -/
def KeepBut (br : Nat) (A B : World) : Prop := ∀ p v, p.block ≠ br → A.cell? p = some v → B.cell? p = some v
theorem KeepBut.refl (br : Nat) (A : World) : KeepBut br A A := fun _ _ _ h => h
theorem KeepBut.trans {br : Nat} {A B C : World} (h : KeepBut br A B) (k : KeepBut br B C) : KeepBut br A C := fun p v hp e => k p v hp (h p v hp e)
/-- What has come when k rounds are over. -/
def down (N k : Nat) : List Nat := (List.range k).map fun j => N - 1 - j
theorem down_succ (N k : Nat) : down N (k + 1) = down N k ++ [N - 1 - k] := by simp [down, List.range_succ]
theorem down_length (N k : Nat) : (down N k).length = k := by simp [down]
set_option maxRecDepth 100000 in
set_option maxHeartbeats 2000000 in
/-- slices.Backward's closure: for every loop body that keeps all but one block. -/
theorem back1_in (F : Fence) (n : Nat) (h58 : F.fn 58) (hro : F.round = none) (hn : 1 ≤ n) (l Bs Bo br b off len cap : Nat) (zs : Nat → Value × Value × Value × Value) (hlen : len ≤ 1000) (hb : b ≠ br) (hBr : Bs ≠ br) (J Jx : List Nat → World → Prop)
    (hY : ∀ (pre : List Nat) (x : Nat) W, x < len → J pre W → pre.length < len → YieldAt F (n - 1) Try.prog l #[.int .i64 (x : Int), .agg #[(zs x).1, (zs x).2.1, (zs x).2.2.1, (zs x).2.2.2]] W fun e W' =>
      (e = .returned (.bool true) ∧ J (pre ++ [x]) W' ∧ KeepBut br W W') ∨ (e = .returned (.bool false) ∧ Jx (pre ++ [x]) W'))
    (W : World) (hBs : W.cell? ⟨Bs, Bo, none⟩ = some (.slice (some ⟨b, off, none⟩) len cap))
    (hc : ∀ j, j < len → W.cell? ⟨b, off + j * 4, none⟩ = some (zs j).1 ∧ W.cell? ⟨b, off + j * 4 + 1, none⟩ = some (zs j).2.1 ∧ W.cell? ⟨b, off + j * 4 + 2, none⟩ = some (zs j).2.2.1 ∧ W.cell? ⟨b, off + j * 4 + 3, none⟩ = some (zs j).2.2.2) (h0 : J [] W) :
    CallsIn F n Try.prog 58 #[.func (.yield l) #[] #[], .pointer (some ⟨Bs, Bo, none⟩)] W fun e W' => (∃ v, e = .returned v) ∧
      ((∃ ys, ys = down len len ∧ J ys W') ∨ (∃ pre, (∃ k, k ≤ len ∧ pre = down len k) ∧ Jx pre W')) := by
  refine callsIn_of_wp Try.func58 rfl h58 ?_ hro
  simp only [Try.ntmps58, List.size_toArray, List.length_cons, List.length_nil, Nat.reduceAdd, Nat.reduceSub, Array.replicate_succ, Array.replicate_zero, List.push_toArray, List.append_toArray, List.nil_append, List.cons_append]
  gi_wp2
  gi_loopw [3] (fun i wr => ∃ k : Nat, k ≤ len ∧ i = .int .i64 ((len : Int) - 1 - k) ∧ J (down len k) wr ∧ KeepBut br W wr)
    (fun i _ => (intOf i + 1).toNat)
  case atStart => exact ⟨0, Nat.zero_le _, by simp, h0, KeepBut.refl _ _⟩
  case round =>
    obtain ⟨k, hk, rfl, hJs, hnx⟩ := hrel
    by_cases hlt : k < len
    · obtain ⟨x, hx⟩ : ∃ x, x = len - 1 - k := ⟨_, rfl⟩
      have hxi : (len : Int) - 1 - (k : Int) = (x : Int) := by omega
      have hxl : x < len := by omega
      rw [hxi]
      have hkx : len - 1 - k = x := hx.symm
      clear hx
      obtain ⟨fn, tmps, assign, body, hy, hR⟩ := hY _ x wr hxl hJs (by rw [down_length]; exact hlt)
      skip
      have hBs' := hnx _ _ hBr hBs
      obtain ⟨q0, q1, q2, q3⟩ := hc x hxl
      have c0 := hnx _ _ hb q0
      have c1 := hnx _ _ hb q1
      have c2 := hnx _ _ hb q2
      have c3 := hnx _ _ hb q3
      have hge : (0 : Int) ≤ (x : Int) := by omega
      gi_wp2
      refine hR.mono ?_
      rintro e W3 (⟨rfl, hJ3, hk3⟩ | ⟨rfl, hJx3⟩)
      · gi_wp2
        go_roundw
        case rel =>
          refine ⟨k + 1, by omega, ?_, by rw [down_succ, hkx]; exact hJ3, hnx.trans hk3⟩
          congr 1; omega
        case measure => simp [intOf] <;> omega
      · gi_wp2
        refine bodyPost_ret (results_none rfl _ _ _) rfl ?_
        exact ⟨⟨_, rfl⟩, .inr ⟨_, ⟨k + 1, by omega, by rw [down_succ, hkx]⟩, hJx3⟩⟩
    · obtain rfl : k = len := by omega
      have hlt0 : ¬ (0 : Int) ≤ (k : Int) - 1 - (k : Int) := by omega
      gi_wp2
      go_end0
      exact ⟨⟨_, rfl⟩, .inl hJs⟩
set_option maxHeartbeats 1000000 in
theorem back_in (F : Fence) (n : Nat) (h39 : F.fn 39) (hro : F.round = none) (a : Option Addr) (len cap : Nat) (w : World) :
    CallsIn F n Try.prog 39 #[.slice a len cap] w fun e w' => e = .returned (.func (.func 58) #[] #[.pointer (some ⟨w.heap.size, 0, none⟩)]) ∧ w' = w.alloc (.cells #[.slice a len cap] 24) := by
  refine callsIn_of_wp Try.func39 rfl h39 ?_ hro
  simp only [Try.ntmps39, List.size_toArray, List.length_cons, List.length_nil, Nat.reduceAdd, Nat.reduceSub, Array.replicate_succ, Array.replicate_zero, List.push_toArray, List.append_toArray, List.nil_append, List.cons_append]
  gi_wp2
  go_ret
  exact ⟨rfl, rfl⟩
theorem back_stops (F : Fence) (n : Nat) (h58 : F.fn 58) (hro : F.round = none) (hn : 1 ≤ n) (Bs Bo br b off len cap : Nat) (zs : Nat → Value × Value × Value × Value) (hlen : len ≤ 1000) (hb : b ≠ br) (hBr : Bs ≠ br) (w : World)
    (hBs : w.cell? ⟨Bs, Bo, none⟩ = some (.slice (some ⟨b, off, none⟩) len cap))
    (hc : ∀ j, j < len → w.cell? ⟨b, off + j * 4, none⟩ = some (zs j).1 ∧ w.cell? ⟨b, off + j * 4 + 1, none⟩ = some (zs j).2.1 ∧ w.cell? ⟨b, off + j * 4 + 2, none⟩ = some (zs j).2.2.1 ∧ w.cell? ⟨b, off + j * 4 + 3, none⟩ = some (zs j).2.2.2) :
    SeqStopsK F n Try.prog 58 #[.pointer (some ⟨Bs, Bo, none⟩)] (fun x : { x : Nat // x < len } => #[Value.int .i64 (x.1 : Int), .agg #[(zs x.1).1, (zs x.1).2.1, (zs x.1).2.2.1, (zs x.1).2.2.2]]) (KeepBut br) (fun ys => ys.map (·.1) = down len len)
      (fun pre => ∃ k, k ≤ len ∧ pre.map (·.1) = down len k) len w := fun l J Jx W hW _ _ hY h0 => by
  have keep : ∀ p v, w.cell? p = some v → W.cell? p = some v := fun p v e => by
    obtain ⟨_, c, t, f, hb, _⟩ := Go.Ah.cell_block e
    have := hW.cell (p := p) (by exact (Array.getElem?_eq_some_iff.mp hb).1)
    exact this.trans e
  refine (back1_in F n h58 hro hn l Bs Bo br b off len cap zs hlen hb hBr (fun pre W => ∃ q, q.map (·.1) = pre ∧ J q W) (fun pre W => ∃ q, q.map (·.1) = pre ∧ Jx q W) ?_ W (keep _ _ hBs) (fun j hj => by obtain ⟨a1, a2, a3, a4⟩ := hc j hj; exact ⟨keep _ _ a1, keep _ _ a2, keep _ _ a3, keep _ _ a4⟩) ⟨[], rfl, h0⟩).mono ?_
  · rintro pre x W1 hx ⟨q, rfl, hJ⟩ hl
    obtain ⟨fn, tmps, assign, body, hy, hR⟩ := hY q ⟨x, hx⟩ W1 hJ (by simpa using hl)
    refine ⟨fn, tmps, assign, body, hy, hR.mono ?_⟩
    rintro e W' (⟨h1, h2, h3⟩ | ⟨h1, h2⟩)
    · exact .inl ⟨h1, ⟨_, by simp, h2⟩, h3⟩
    · exact .inr ⟨h1, _, by simp, h2⟩
  · rintro e W' ⟨he, ⟨ys, rfl, q, hq, hJ⟩ | ⟨pre, ⟨k, hk, rfl⟩, q, hq, hJ⟩⟩
    · exact ⟨he, .inl ⟨q, hq, hJ⟩⟩
    · exact ⟨he, .inr ⟨q, ⟨k, hk, hq⟩, hJ⟩⟩
end Go.Proofs.Ytdagajblnlemaaa
