import Derived.Test.YtdagajblnlemaaaP15
namespace Go.Proofs.Ytdagajblnlemaaa
open Go Go.Ah Go.RowKit
set_option linter.unusedSimpArgs false
set_option linter.unusedVariables false
set_option maxRecDepth 100000
set_option maxHeartbeats 4000000
theorem arr112 (t : Array Value) (h : t.size = 112) (f : Nat → Value) (hf : f = fun i => t.getD i undef) : t = #[f 0, f 1, f 2, f 3, f 4, f 5, f 6, f 7, f 8, f 9, f 10, f 11, f 12, f 13, f 14, f 15, f 16, f 17, f 18, f 19, f 20, f 21, f 22, f 23, f 24, f 25, f 26, f 27, f 28, f 29, f 30, f 31, f 32, f 33, f 34, f 35, f 36, f 37, f 38, f 39, f 40, f 41, f 42, f 43, f 44, f 45, f 46, f 47, f 48, f 49, f 50, f 51, f 52, f 53, f 54, f 55, f 56, f 57, f 58, f 59, f 60, f 61, f 62, f 63, f 64, f 65, f 66, f 67, f 68, f 69, f 70, f 71, f 72, f 73, f 74, f 75, f 76, f 77, f 78, f 79, f 80, f 81, f 82, f 83, f 84, f 85, f 86, f 87, f 88, f 89, f 90, f 91, f 92, f 93, f 94, f 95, f 96, f 97, f 98, f 99, f 100, f 101, f 102, f 103, f 104, f 105, f 106, f 107, f 108, f 109, f 110, f 111] := by
  have e : t = ((List.range 112).map f).toArray := by
    apply Array.ext
    · rw [h]; simp
    · intro i h1 h2
      have : t[i] = f i := by rw [hf]; simp [Array.getD, h1]
      rw [this]; simp
  rw [e]; rfl
theorem flatLen (l : List Node) : (l.flatMap encNode).length = l.length * 4 := by
  induction l with
  | nil => rfl
  | cons x l ih => rw [List.flatMap_cons, List.length_append, ih, List.length_cons]; simp [encNode]; omega
theorem hole_ok {r0 s' r3 r4 r5 rest asg bdy : Code} {g : Operand} {ps : Array Tmp} (hc : Try.f12.body = some (.seq r0 (.seq s' (.seq r3 (.seq r4 (.seq (.seq r5 (.block 0 (.rangeFunc g ps asg bdy))) rest))))))
    (hrest : slimC Try.prog 112 rest = some c12_48.bare) {W0 w : World} {m0 m : Map} {h K : Heap} {E : Env} {a : Act} {v : Value} {l : List Node} (A : At W0 112 [] m0 h m E K a w) (s : SlT h encNode 4 v l) (H : HoleF h v l E K) :
    (Code.block 0 (.rangeFunc g ps asg bdy)).wp Try.prog (Exit.then (rest.wp Try.prog (bodyPostM Fence.wide 10 Try.prog Try.f12 (EndsF W0 m0 h (prunedF l)))) (bodyPostM Fence.wide 10 Try.prog Try.f12 (EndsF W0 m0 h (prunedF l)))) a w := by
  obtain ⟨ib, bb, sb, ok, EK, hib, hbb, hsb, Bi, Bb, Bs, rfl⟩ := H
  have hn := ok.1
  have hN : 0 < l.length := by omega
  obtain ⟨v0, t0, q0⟩ := A.er.2 0 v rfl
  obtain ⟨v3, t3, q3⟩ := A.er.2 3 (.pointer (some ⟨bb, 0, none⟩)) rfl
  obtain ⟨v28, t28, q28⟩ := A.er.2 28 (.func (.func 58) #[] #[.pointer (some ⟨sb, 0, none⟩)]) rfl
  obtain ⟨pb, po, Sp, xp, mp, rfl, cp0, qp, hpp⟩ := box_at A.rel q3 Bb
  obtain ⟨wb, wo, S, cp, mw, rfl, hcp, hcp2⟩ := slc_at A.rel qp hN
  obtain ⟨i, o, ob, rfl, hgi, hli, hoo, hcut⟩ : ∃ i o ob, v = .slice (some ⟨i, o, none⟩) l.length 4 ∧ h.get i = some ob ∧ ob.live = true ∧ o + l.length * 4 ≤ ob.cells.length ∧ (ob.cells.drop o).take (l.length * 4) = l.flatMap encNode := by
    have hL := flatLen l
    rcases s.sl with ⟨_, e⟩ | ⟨_, e⟩ | ⟨i, o, n, ob, rfl, h1, h2, h3, h4⟩
    · rw [e] at hL; simp at hL; omega
    · rw [e] at hL; simp at hL; omega
    · have : n = l.length := by have := congrArg List.length h4; rw [hL] at this; simp at this; omega
      subst this; exact ⟨i, o, ob, rfl, h1, h2, h3, h4⟩
  obtain ⟨nb, no, Sn, cn0, mn, rfl, hcn, hcn2⟩ := slc_at A.rel q0 hN
  obtain ⟨sB, sO, xs, sZ, cs0, qs, rfl⟩ : ∃ sB sO xs, ∃ Ss, w.cell? ⟨sB, sO, none⟩ = some xs ∧ (VR m (.slice (some ⟨i, o, none⟩) l.length 4) xs ∧ m sb = some (sB, sO, Ss)) ∧ v28 = .func (.func 58) #[] #[.pointer (some ⟨sB, sO, none⟩)] := by
    cases q28 with
    | func _ f f' c c' z1 z2 z3 z4 =>
      have e1 : f' = #[] := by cases f' with | mk q => cases q with | nil => rfl | cons x q => simp at z1
      subst e1
      obtain ⟨x, rfl⟩ : ∃ x, c' = #[x] := by
        cases c' with
        | mk q =>
          match q, z2 with
          | [x], _ => exact ⟨x, rfl⟩
          | [], z2 => simp at z2
          | _ :: _ :: _, z2 => simp at z2
      have z5 := z4 0 (by show 0 < 1; omega) (by show 0 < 1; omega)
      have z5 : VR m (.pointer (some ⟨sb, 0, none⟩)) x := z5
      obtain ⟨b, q, S1, x', m1, rfl, a1, a2, _⟩ := box_at A.rel z5 Bs
      exact ⟨b, q, x', S1, a1, ⟨a2, m1⟩, rfl⟩
  obtain ⟨nb2, no2, Sn2, cn, mn2, rfl, hcn1, hcn3⟩ := slc_at A.rel qs.1 hN
  rw [mn] at mn2; cases mn2
  have ng : K.get i = some ob := ro_ext EK hgi
  have hgp := Heap.grp_le hgi
  have hlt := Heap.get_lt hgi
  have hnb : nb ≠ wb := apart_at A.rel Bi mw mn ng (by omega)
  have hpb : pb ≠ wb := apart_at A.rel Bi mw mp Bb (by show bb ≠ ib; omega)
  have hsB : sB ≠ wb := apart_at A.rel Bi mw qs.2 Bs (by show sb ≠ ib; omega)
  have hcell : ∀ q x, (l.flatMap encNode)[q]? = some x → ∃ v', w.cell? ⟨nb, no + o + q, none⟩ = some v' ∧ VR m x v' := by
    intro q x e
    rw [← hcut, List.getElem?_take] at e
    split at e
    · rw [List.getElem?_drop] at e
      obtain ⟨_, hh⟩ := A.rel.cells i nb no Sn ob mn ng hli
      obtain ⟨v', a1, a2⟩ := hh (o + q) x e
      exact ⟨v', by rw [Nat.add_assoc]; exact a1, a2⟩
    · cases e
  have gm : ∀ j q, j < l.length → q < 4 → (l.flatMap encNode)[j * 4 + q]? = (encNode (nd l j))[q]? := by
    intro j q hj hq
    rw [List.flatMap_def, flatten_get (n := 4) (by omega) _ (fun x hx => by obtain ⟨y, _, rfl⟩ := List.mem_map.mp hx; rfl), show (j * 4 + q) / 4 = j by omega, show (j * 4 + q) % 4 = q by omega, List.getElem?_map, List.getElem?_eq_getElem hj, nd_eq hj]
    rfl
  obtain ⟨fv, hfv⟩ : ∃ fv : Nat → Nat, ∀ j, j < l.length → w.cell? ⟨nb, no + o + j * 4, none⟩ = some (.int .i64 (nd l j).kind) ∧ w.cell? ⟨nb, no + o + j * 4 + 1, none⟩ = some (.int .i64 (nd l j).inn) ∧ w.cell? ⟨nb, no + o + j * 4 + 2, none⟩ = some (.int .i64 (nd l j).in2) ∧ w.cell? ⟨nb, no + o + j * 4 + 3, none⟩ = some (.float .f64 (fv j)) := by
    refine ⟨fun j => match w.cell? ⟨nb, no + o + j * 4 + 3, none⟩ with | some (.float _ b) => b | _ => 0, fun j hj => ?_⟩
    obtain ⟨x0, a0, b0⟩ := hcell (j * 4 + 0) _ (gm j 0 hj (by omega))
    obtain ⟨x1, a1, b1⟩ := hcell (j * 4 + 1) _ (gm j 1 hj (by omega))
    obtain ⟨x2, a2, b2⟩ := hcell (j * 4 + 2) _ (gm j 2 hj (by omega))
    obtain ⟨x3, a3, b3⟩ := hcell (j * 4 + 3) _ (gm j 3 hj (by omega))
    cases b0; cases b1; cases b2
    cases b3 with
    | float _ _ b' _ =>
      have a3 : w.cell? ⟨nb, no + o + j * 4 + 3, none⟩ = some (.float .f64 b') := a3
      exact ⟨a0, a1, a2, by simp only [a3]⟩
  obtain ⟨f, hf⟩ : ∃ f : Nat → Value, f = fun i => a.tmps.getD i undef := ⟨_, rfl⟩
  have ht := arr112 a.tmps A.er.1 f hf
  have hda := A.nodefer
  have f3 : f 3 = .pointer (some ⟨pb, po, none⟩) := by rw [hf]; simp [Array.getD_eq_getD_getElem?, t3]
  have f28 : f 28 = .func (.func 58) #[] #[.pointer (some ⟨sB, sO, none⟩)] := by rw [hf]; simp [Array.getD_eq_getD_getElem?, t28]
  have ha : a = { tmps := #[f 0, f 1, f 2, f 3, f 4, f 5, f 6, f 7, f 8, f 9, f 10, f 11, f 12, f 13, f 14, f 15, f 16, f 17, f 18, f 19, f 20, f 21, f 22, f 23, f 24, f 25, f 26, f 27, f 28, f 29, f 30, f 31, f 32, f 33, f 34, f 35, f 36, f 37, f 38, f 39, f 40, f 41, f 42, f 43, f 44, f 45, f 46, f 47, f 48, f 49, f 50, f 51, f 52, f 53, f 54, f 55, f 56, f 57, f 58, f 59, f 60, f 61, f 62, f 63, f 64, f 65, f 66, f 67, f 68, f 69, f 70, f 71, f 72, f 73, f 74, f 75, f 76, f 77, f 78, f 79, f 80, f 81, f 82, f 83, f 84, f 85, f 86, f 87, f 88, f 89, f 90, f 91, f 92, f 93, f 94, f 95, f 96, f 97, f 98, f 99, f 100, f 101, f 102, f 103, f 104, f 105, f 106, f 107, f 108, f 109, f 110, f 111], defers := [] } := by
    obtain ⟨tm, df⟩ := a
    simp only at ht hda
    rw [← ht, hda]
  refine wp_block ?_
  rw [ha]
  refine (wpIn_wide (n := 10)).1 (loop_ok hc A.rel f l ok fv _ f3 f28 mw Bi cp0 cs0 hfv hpb hsB hnb ?_)
  intro D W K' hWD R' S' B' G' hd
  have S2 := (A.step.trans S')
  have sh : ∀ {q b o S : Nat}, m q = some (b, o, S) → ∃ c e f, W.heap[b]? = some (Go.Obj.cells c e f) ∧ c.size = S := fun e => R'.shape _ _ _ _ e
  have rowW : ∀ j, j < l.length → W.cell? ⟨wb, wo + j, none⟩ = some (.bool ((needK l l.length).getD j false)) := by
    intro j hj
    obtain ⟨_, hh⟩ := R'.cells ib wb wo S _ mw B' rfl
    obtain ⟨v', a1, a2⟩ := hh j (.bool ((needK l l.length).getD j false)) (by rw [List.getElem?_map, List.getD, List.getElem?_eq_getElem (by rw [needK_len]; exact hj)]; rfl)
    cases a2; exact a1
  have ng' : K'.get i = some ob := G'.2 i ob ng (by omega)
  have nb' : K'.get bb = some ⟨[.slice (some ⟨ib, 0, none⟩) l.length 1], bb, true, true⟩ := G'.2 bb _ Bb (by show bb ≠ ib; omega)
  have cN : ∀ q x, (l.flatMap encNode)[q]? = some x → ∃ v', W.cell? ⟨nb, no + o + q, none⟩ = some v' ∧ VR m x v' := by
    intro q x e
    rw [← hcut, List.getElem?_take] at e
    split at e
    · rw [List.getElem?_drop] at e
      obtain ⟨_, hh⟩ := R'.cells i nb no Sn ob mn ng' hli
      obtain ⟨v', a1, a2⟩ := hh (o + q) x e
      exact ⟨v', by rw [Nat.add_assoc]; exact a1, a2⟩
    · cases e
  obtain ⟨_, hbx⟩ := R'.cells bb pb po Sp _ mp nb' rfl
  obtain ⟨y, y1, y2⟩ := hbx 0 _ rfl
  obtain ⟨wb2, wo2, S2', cp2, mw2, rfl, u1, u2⟩ := slc_at R' y2 hN
  rw [mw] at mw2; cases mw2
  show rest.wp Try.prog _ _ W
  refine behind_ok hrest R' l ok (needK l l.length) (needK_len _ _) _ rfl hd (Nat.le_trans A.rel.below.size hWD) (by rw [← ht]; exact A.er.1) (by rw [← ht]; exact t0) (by rw [← ht]; exact t3) (sh mn) (sh mw) (sh mp) ⟨hcn, hcn2⟩ ⟨u1, by omega⟩ hpp cN rowW y1 ?_
  rintro e w' ⟨v', r, h', m', rfl, z1, z2, z3, z4⟩
  refine ⟨v', r, h', m', rfl, z1, S2.trans z2, z3, ?_⟩
  rw [show prunedF l = (outK l (needK l l.length) l.length).2 from if_pos ok]
  exact z4.mono (G'.ext EK (by omega))
end Go.Proofs.Ytdagajblnlemaaa
