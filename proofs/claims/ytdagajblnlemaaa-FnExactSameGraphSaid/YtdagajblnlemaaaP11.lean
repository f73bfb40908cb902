import Derived.Test.YtdagajblnlemaaaP10
namespace Go.Proofs.Ytdagajblnlemaaa
open Go Go.Ah Go.RowKit Go.Shelf
attribute [local go_sem] Oper.semAt_some
set_option linter.unusedVariables false
set_option maxRecDepth 100000
set_option maxHeartbeats 8000000
theorem run_store_flt {P : Program} {w : World} {a : Addr} {md : Mode} (k : FloatKind) (b : Nat) : (store a (.float k b) md).run P w = stored P w a (.float k b) md := run_store P w a _ md rfl
attribute [local go_sem] run_store_flt
theorem loop_ok {r0 s r3 r4 r5 rest asg bdy : Code} {g : Operand} {ps : Array Tmp} (h : Try.f12.body = some (.seq r0 (.seq s (.seq r3 (.seq r4 (.seq (.seq r5 (.block 0 (.rangeFunc g ps asg bdy))) rest))))))
    {W0 w : World} {m : Map} {K0 : Heap} (R : Rel W0 m K0 w) (f : Nat → Value) (l : List Node) (ok : graphOk l) (fv : Nat → Nat) {wb wo cp pb po Bs Bo nb no cn ib S : Nat} (Q : Exit → Act → World → Prop)
    (h3 : f 3 = .pointer (some ⟨pb, po, none⟩)) (h28 : f 28 = .func (.func 58) #[] #[.pointer (some ⟨Bs, Bo, none⟩)]) (hm : m ib = some (wb, wo, S)) (BX : Bx K0 ib ((needK l 0).map Value.bool))
    (c0 : w.cell? ⟨pb, po, none⟩ = some (.slice (some ⟨wb, wo, none⟩) l.length cp)) (c1 : w.cell? ⟨Bs, Bo, none⟩ = some (.slice (some ⟨nb, no, none⟩) l.length cn))
    (cz : ∀ j, j < l.length → w.cell? ⟨nb, no + j * 4, none⟩ = some (.int .i64 (nd l j).kind) ∧ w.cell? ⟨nb, no + j * 4 + 1, none⟩ = some (.int .i64 (nd l j).inn) ∧ w.cell? ⟨nb, no + j * 4 + 2, none⟩ = some (.int .i64 (nd l j).in2) ∧ w.cell? ⟨nb, no + j * 4 + 3, none⟩ = some (.float .f64 (fv j)))
    (e1 : pb ≠ wb) (e2 : Bs ≠ wb) (e3 : nb ≠ wb)
    (hdone : ∀ (D : Nat) (W : World) (K : Heap), w.heap.size ≤ D → Rel W0 m K W → Step m K0 m K → Bx K ib ((needK l l.length).map Value.bool) → ExtG ib K0 K → W.heap[D]? = some (.deferred (some [])) →
      Q .normal { tmps := #[f 0, f 1, f 2, f 3, f 4, f 5, f 6, f 7, f 8, f 9, f 10, f 11, f 12, f 13, f 14, f 15, f 16, f 17, f 18, f 19, f 20, f 21, f 22, f 23, f 24, f 25, f 26, f 27, f 28, f 29, f 30, f 31, f 32, f 33, f 34, f 35, f 36, f 37, f 38, f 39, f 40, f 41, f 42, f 43, f 44, f 45, f 46, f 47, f 48, f 49, f 50, f 51, f 52, f 53, f 54, f 55, f 56, f 57, f 58, f 59, f 60, f 61, f 62, f 63, f 64, f 65, f 66, f 67, f 68, f 69, f 70, f 71, f 72, f 73, f 74, f 75, f 76, f 77, f 78, f 79, f 80, f 81, f 82, f 83, f 84, f 85, f 86, f 87, f 88, f 89, f 90, f 91, f 92, f 93, f 94, f 95, f 96, f 97, f 98, f 99, f 100, f 101, f 102, f 103, f 104, f 105, f 106, f 107, f 108, f 109, f 110, f 111], defers := [{ target := .collected D, args := #[] }] } W) :
    (Code.rangeFunc g ps asg bdy).wpIn Fence.wide 10 Try.prog Q { tmps := #[f 0, f 1, f 2, f 3, f 4, f 5, f 6, f 7, f 8, f 9, f 10, f 11, f 12, f 13, f 14, f 15, f 16, f 17, f 18, f 19, f 20, f 21, f 22, f 23, f 24, f 25, f 26, f 27, f 28, f 29, f 30, f 31, f 32, f 33, f 34, f 35, f 36, f 37, f 38, f 39, f 40, f 41, f 42, f 43, f 44, f 45, f 46, f 47, f 48, f 49, f 50, f 51, f 52, f 53, f 54, f 55, f 56, f 57, f 58, f 59, f 60, f 61, f 62, f 63, f 64, f 65, f 66, f 67, f 68, f 69, f 70, f 71, f 72, f 73, f 74, f 75, f 76, f 77, f 78, f 79, f 80, f 81, f 82, f 83, f 84, f 85, f 86, f 87, f 88, f 89, f 90, f 91, f 92, f 93, f 94, f 95, f 96, f 97, f 98, f 99, f 100, f 101, f 102, f 103, f 104, f 105, f 106, f 107, f 108, f 109, f 110, f 111], defers := [] } w := by
  cases h
  have hN : l.length ≤ 1000 := by have := ok.1; omega
  have hwb := R.blt hm
  refine wpIn_rangeFunc_ownH (gf := 58) (lb := #[.pointer (some ⟨Bs, Bo, none⟩)]) rfl (by omega) (by exact h28) trivial (enters_of Try.func58 (by kernel_rfl) rfl)
    (back_stops Fence.wide (10 - 1) trivial rfl (by omega) Bs Bo wb nb no l.length cn (fun j => (.int .i64 (nd l j).kind, .int .i64 (nd l j).inn, .int .i64 (nd l j).in2, .float .f64 (fv j))) hN e3 e2 w c1 cz)
    (fun h k => h.trans k) (fun W q o o' hq ho hc _ p v hp e => cell_kept e (grownBy_putObj' W q o') (fun r er => by cases er; exact ⟨o, ho, hc⟩)) (Below.refl _ w) (fun _ => rfl)
    (fun pre W => InvL W0 m K0 w wb ib l (pre.map (·.1)) W) (fun _ _ _ => False) ?inv (fun _ _ _ _ _ hs _ _ => hs) ⟨KeepBut.refl _ _, K0, R, Step.refl _ _, BX, ExtG.refl _ _⟩
    (fun x a' W => ∃ Bx, Bx ≠ wb ∧ W.cell? ⟨Bx, 0, none⟩ = some (.int .i64 (nd l x.1).kind) ∧ W.cell? ⟨Bx, 1, none⟩ = some (.int .i64 (nd l x.1).inn) ∧ W.cell? ⟨Bx, 2, none⟩ = some (.int .i64 (nd l x.1).in2) ∧ W.cell? ⟨Bx, 3, none⟩ = some (.float .f64 (fv x.1)) ∧
      a' = { tmps := #[f 0, f 1, f 2, f 3, .int .i64 (x.1 : Int), .pointer (some ⟨Bx, 0, none⟩), f 6, f 7, f 8, f 9, f 10, f 11, f 12, f 13, f 14, f 15, f 16, f 17, f 18, f 19, f 20, f 21, f 22, f 23, f 24, f 25, f 26, f 27, f 28, .int .i64 (x.1 : Int), .agg #[.int .i64 (nd l x.1).kind, .int .i64 (nd l x.1).inn, .int .i64 (nd l x.1).in2, .float .f64 (fv x.1)], f 31, f 32, f 33, f 34, f 35, f 36, f 37, f 38, f 39, f 40, f 41, f 42, f 43, f 44, f 45, f 46, f 47, f 48, f 49, f 50, f 51, f 52, f 53, f 54, f 55, f 56, f 57, f 58, f 59, f 60, f 61, f 62, f 63, f 64, f 65, f 66, f 67, f 68, f 69, f 70, f 71, f 72, f 73, f 74, f 75, f 76, f 77, f 78, f 79, f 80, f 81, f 82, f 83, f 84, f 85, f 86, f 87, f 88, f 89, f 90, f 91, f 92, f 93, f 94, f 95, f 96, f 97, f 98, f 99, f 100, f 101, f 102, f 103, f 104, f 105, f 106, f 107, f 108, f 109, f 110, f 111], defers := [] }) ?ax ?assign ?body ?done ?stop
  case inv =>
    rintro pre A B row ⟨q1, K, q2, q3, q4, q5⟩ hg hr
    exact ⟨keepBut_grown q1 hg (fun r e => (hr r e).2), K, relGrown q2 R.below.size hg hr, q3, q4, q5⟩
  case ax =>
    rintro x a' _ A B row ⟨b, q0, q1, q2, q3, q4, q5⟩ hg hr
    have k := fun r e => (hr r e).2
    exact ⟨b, q0, cell_kept q1 hg k, cell_kept q2 hg k, cell_kept q3 hg k, cell_kept q4 hg k, q5⟩
  case assign =>
    intro lp pre x W K ⟨q1, K1, q2, q3, q4, q5⟩ hK
    gi_wp2
    have hb := q2.blt hm
    have hn : ∀ o, (W.alloc (.cells #[.int .i64 (nd l x.1).kind, .int .i64 (nd l x.1).inn, .int .i64 (nd l x.1).in2, .float .f64 (fv x.1)] 59)).cell? ⟨W.heap.size, o, none⟩ = (#[Value.int .i64 (nd l x.1).kind, .int .i64 (nd l x.1).inn, .int .i64 (nd l x.1).in2, .float .f64 (fv x.1)] : Array Value)[o]? :=
      fun o => cell_of_block (World.alloc_heap_new W _) o
    have kb : KeepBut wb W (W.alloc (.cells #[.int .i64 (nd l x.1).kind, .int .i64 (nd l x.1).inn, .int .i64 (nd l x.1).in2, .float .f64 (fv x.1)] 59)) := fun p v _ e => cellA _ e
    exact hK _ _ ((KeepsOthers.alloc _ _).from _) kb ⟨q1.trans kb, K1, q2.allocW _, q3, q4, q5⟩ ⟨W.heap.size, by omega, hn 0, hn 1, hn 2, hn 3, by rw [h3, h28]⟩
  case body =>
    rintro lp pre x a' W hlt hloop ⟨q1, K, q2, q3, q4, q5⟩ ⟨Bx, z0, z1, z2, z3, z4, rfl⟩ hlen
    have hx := x.2
    have nk := nodeOk_in (ok.2 x.1 x.2)
    rw [← nd_eq x.2] at nk
    have c0' := q1 _ _ e1 c0
    obtain ⟨row, hrow⟩ : ∃ r, r = rowP l (pre.map (·.1)) := ⟨_, rfl⟩
    have hlr : row.length = l.length := by rw [hrow]; exact rowP_len _ _
    rw [← hrow] at q4
    have hrs : rowP l ((pre ++ [x]).map (·.1)) = needS l x.1 row := by rw [List.map_append, List.map_singleton, rowP_snoc, hrow]
    have hsz : (row.map Value.bool).length = l.length := by simp [hlr]
    have hcw : ∀ j, j < l.length → W.cell? ⟨wb, wo + j, none⟩ = some (.bool (row.getD j false)) := by
      intro j hj
      obtain ⟨_, hc⟩ := q2.cells ib wb wo S _ hm q4 rfl
      obtain ⟨v', a1, a2⟩ := hc j (.bool (row.getD j false)) (by rw [List.getElem?_map, List.getD, List.getElem?_eq_getElem (by omega)]; rfl)
      cases a2; exact a1
    have hfz := fun j (hj : j < l.length) => (relFree q2 hm q4 (j := j) (by omega)).1
    have hst := row_step (nd l x.1) row _ _ rfl rfl
    have hns : needS l x.1 row = if row.getD x.1 false = true ∧ (nd l x.1).kind ≠ 1 then stepW (nd l x.1) row else row := rfl
    generalize nd l x.1 = nn at nk z1 z2 z3 hst hns ⊢
    obtain ⟨kd, ii, jj, vv⟩ := nn
    simp only at nk z1 z2 z3 hst hns ⊢
    have hi : 0 ≤ ii ∧ ii < l.length := by by_cases k1 : kd = 1 <;> simp_all <;> omega
    have hj : 0 ≤ jj ∧ jj < l.length := by by_cases k4 : kd = 4 <;> simp_all <;> omega
    obtain ⟨i, rfl⟩ := Int.eq_ofNat_of_zero_le hi.1
    obtain ⟨j, rfl⟩ := Int.eq_ofNat_of_zero_le hj.1
    simp only [Int.toNat_natCast] at hst
    have hil : i < l.length := by omega
    have hjl : j < l.length := by omega
    have hst := hst (by omega) (by omega)
    have kA : ∀ o : Go.Obj, KeepBut wb W (W.alloc o) := fun o p v _ e => cellA _ e
    refine round_in rfl f lp _ (by omega) x.1 l.length wb wo cp pb po Bx kd i j (fv x.1) (fun j => row.getD j false) W _ h3 hx hN hil hjl c0' hcw z1 z2 z3 z4 hfz e1 z0 (fun a w q => q) (fun hr a => ?_) (fun hr a => ?_)
    · refine ⟨(KeepsOthers.alloc _ _).from _, kA _, q1.trans (kA _), K, q2.allocW _, q3, ?_, q5⟩
      rw [hrs, hns, if_neg (fun q => by rw [hr] at q; cases q.1)]; exact q4
    · obtain ⟨b1, hb1⟩ : ∃ b, b = (row.getD i false || has1 kd) := ⟨_, rfl⟩
      obtain ⟨b2, hb2⟩ : ∃ b, b = ((if j = i then b1 else row.getD j false) || has2 kd) := ⟨_, rfl⟩
      rw [← hb1, ← hb2] at hst
      try simp only
      rw [← hb1, ← hb2]
      have r1 := (q2.allocW (.cells #[.int .i64 kd, .int .i64 i, .int .i64 j, .float .f64 (fv x.1)] 59))
      generalize hWA : W.alloc (.cells #[.int .i64 kd, .int .i64 i, .int .i64 j, .float .f64 (fv x.1)] 59) = WA at r1
      have kWA : KeepBut wb W WA := by rw [← hWA]; exact kA _
      have oWA : KeepsOthers W WA := by rw [← hWA]; exact KeepsOthers.alloc _ _
      obtain ⟨K2, es2, B2, G2⟩ := box_putB q4 (j := i) (by omega) b1
      have r2 := relPut (r1.sameW (w' := { WA with drawn := WA.drawn + 1 }) ⟨rfl, rfl, rfl, rfl⟩) hm es2 (.bool b1) rfl
      obtain ⟨K3, es3, B3, G3⟩ := box_putB B2 (j := j) (by simp; omega) b2
      have r3 := relPut (r2.1.sameW (w' := { (({ WA with drawn := WA.drawn + 1 } : World).setCell ⟨wb, wo + i, none⟩ (.bool b1)) with drawn := (({ WA with drawn := WA.drawn + 1 } : World).setCell ⟨wb, wo + i, none⟩ (.bool b1)).drawn + 1 }) ⟨rfl, rfl, rfl, rfl⟩) hm es3 (.bool b2) rfl
      have kS : ∀ (A : World) (o : Nat) (b : Bool), KeepBut wb A (stB A ⟨wb, o, none⟩ b) := fun A o b p v hp e => by
        unfold stB; rw [World.cell?_setCell_other (h := fun q => hp (congrArg Addr.block q).symm)]; exact e
      have oS : ∀ (A : World) (p : Addr) (b : Bool), KeepsOthers A (stB A p b) := fun A p b => (KeepsOthers.drew A).trans (KeepsOthers.setCell _ _ _)
      have kk := (kWA.trans (kS WA (wo + i) b1)).trans (kS _ (wo + j) b2)
      refine ⟨((oWA.trans (oS _ _ _)).trans (oS _ _ _)).from _, kk, q1.trans kk, K3, r3.1, (q3.trans r2.2).trans r3.2, ?_, (q5.trans G2).trans G3⟩
      rw [hrs, hns, ← (show needS l x.1 row = _ from hns)]
      have : needS l x.1 row = (row.set i b1).set j b2 := by
        rw [hns, hst]
        by_cases k1 : kd = 1
        · rw [if_neg (fun q => q.2 k1), if_neg (fun q => q k1)]
        · rw [if_pos ⟨hr, k1⟩, if_pos k1]
      rw [this]; exact B3
  case done =>
    rintro D xs W hD hxs ⟨q1, K, q2, q3, q4, q5⟩ hd
    rw [hxs, rowP_down] at q4
    exact hdone D W K hD q2 q3 q4 q5 hd
  case stop =>
    rintro D c pre W _ _ h _
    exact h.elim
end Go.Proofs.Ytdagajblnlemaaa
