import Derived.Test.YtdagajblnlemaaaP13
import Derived.Test.YtdagajblnlemaaaP11
namespace Go.Proofs.Ytdagajblnlemaaa
open Go Go.Ah
set_option linter.unusedSimpArgs false
set_option linter.unusedVariables false
set_option maxRecDepth 10000
set_option maxHeartbeats 4000000
/-- What is answered at the end. -/
def EndsF (W0 : World) (m : Map) (K : Heap) (out : List Node) (e : Ending) (w' : World) : Prop :=
  ∃ v' r h' m', e = .returned v' ∧ Rel W0 m' h' w' ∧ Step m K m' h' ∧ VR m' r v' ∧ Fresh K h' encNode 4 r out
theorem one_ev {E : Env} {h : Heap} {vs : List Value} (hv : RV.evs E h v12 = some vs) : ∃ r, vs = [r] := by
  unfold v12 at hv
  cases hq : RV.ev E h (.t 2) with
  | none => simp [RV.evs, hq] at hv
  | some r => simp [RV.evs, hq] at hv; exact ⟨r, hv.symm⟩
theorem behind_ok {c : Code} (hs : slimC Try.prog 112 c = some c12_48.bare) {W0 W : World} {m : Map} {K : Heap} (R : Rel W0 m K W) (l : List Node) (ok : graphOk l) (need : List Bool) (hnl : need.length = l.length) (a : Act) {D : Nat}
    (hd : a.defers = [{ target := .collected D, args := #[] }]) (hD : W.heap[D]? = some (.deferred (some []))) (hWD : W0.heap.size ≤ D) (hsz : a.tmps.size = 112) {nb no cn Sn wb wo cp S pb po Sp : Nat}
    (t0 : a.tmps[0]? = some (.slice (some ⟨nb, no, none⟩) l.length cn)) (t3 : a.tmps[3]? = some (.pointer (some ⟨pb, po, none⟩)))
    (bn : ∃ c e f, W.heap[nb]? = some (.cells c e f) ∧ c.size = Sn) (bw : ∃ c e f, W.heap[wb]? = some (.cells c e f) ∧ c.size = S) (bp : ∃ c e f, W.heap[pb]? = some (.cells c e f) ∧ c.size = Sp)
    (hcn : l.length ≤ cn ∧ no + cn * 4 ≤ Sn) (hcp : l.length ≤ cp ∧ wo + cp ≤ S) (hpp : po + 1 ≤ Sp)
    (cN : ∀ j v, (l.flatMap encNode)[j]? = some v → ∃ v', W.cell? ⟨nb, no + j, none⟩ = some v' ∧ VR m v v')
    (cW : ∀ j, j < l.length → W.cell? ⟨wb, wo + j, none⟩ = some (.bool (need.getD j false))) (cP : W.cell? ⟨pb, po, none⟩ = some (.slice (some ⟨wb, wo, none⟩) l.length cp))
    {Rf : Ending → World → Prop} (hRf : ∀ e w', EndsF W0 m K (outK l need l.length).2 e w' → Rf e w') :
    c.wp Try.prog (bodyPostM Fence.wide 10 Try.prog Try.f12 Rf) a W := by
  have hlen : (l.flatMap encNode).length = l.length * 4 := by
    clear cN cW cP ok hnl t0 hcn hcp hRf
    induction l with
    | nil => rfl
    | cons x l ih => rw [List.flatMap_cons, List.length_append, ih, List.length_cons]; simp [encNode]; omega
  let L : List (List Value) := [l.flatMap encNode, need.map Value.bool, [.slice (some ⟨1, 0, none⟩) l.length 1]]
  let m2 : Map := fun i => if i = 0 then some (nb, no, Sn) else if i = 1 then some (wb, wo, S) else if i = 2 then some (pb, po, Sp) else none
  have hsc : ∀ v, v ∈ l.flatMap encNode → scalB v = true := by
    intro v hv
    obtain ⟨x, _, hv⟩ := List.mem_flatMap.mp hv
    simp [encNode] at hv
    rcases hv with rfl | rfl | rfl | rfl <;> rfl
  have R2 : Rel W m2 (Heap.ro L) W := by
    refine Rel.start W R.glw L m2 (fun i hi => ?_) (fun i hi => ?_)
    · have : 3 ≤ i := hi
      simp only [m2]; rw [if_neg (by omega), if_neg (by omega), if_neg (by omega)]
    · have : i = 0 ∨ i = 1 ∨ i = 2 := by have : i < 3 := hi; omega
      rcases this with rfl | rfl | rfl
      · obtain ⟨c, e, f, h1, h2⟩ := bn
        refine ⟨nb, no, Sn, c, e, f, rfl, h1, h2, by show no + (l.flatMap encNode).length ≤ Sn; omega, fun j v e => ?_⟩
        have hv := hsc v (List.mem_of_getElem? e)
        obtain ⟨v', a1, a2⟩ := cN j v e
        exact ⟨scal_one hv, v', a1, scal_VR a2 hv⟩
      · obtain ⟨c, e, f, h1, h2⟩ := bw
        refine ⟨wb, wo, S, c, e, f, rfl, h1, h2, by show wo + (need.map Value.bool).length ≤ S; simp; omega, fun j v e => ?_⟩
        have e : (need.map Value.bool)[j]? = some v := e
        rw [List.getElem?_map, Option.map_eq_some_iff] at e
        obtain ⟨b, hb, rfl⟩ := e
        have hj := (List.getElem?_eq_some_iff.mp hb).1
        refine ⟨rfl, .bool b, ?_, .bool b⟩
        rw [cW j (by omega), List.getD, hb]; rfl
      · obtain ⟨c, e, f, h1, h2⟩ := bp
        refine ⟨pb, po, Sp, c, e, f, rfl, h1, h2, hpp, fun j v e => ?_⟩
        cases j with
        | zero =>
          have e : some (Value.slice (some ⟨1, 0, none⟩) l.length 1) = some v := e
          cases e
          exact ⟨rfl, _, cP, .slice 1 0 l.length 1 wb wo S wo cp rfl hcp.1 (.inr ⟨rfl, by omega⟩)⟩
        | succ j => have e : ([] : List Value)[j]? = some v := e; simp at e
  have s : SlT (Heap.ro L) encNode 4 (.slice (some ⟨0, 0, none⟩) l.length 4) l :=
    ⟨.inr (.inr ⟨0, 0, l.length, ⟨l.flatMap encNode, 0, false, true⟩, rfl, by rw [Heap.get_ro]; rfl, rfl, by simp only; omega, by simp only [List.drop_zero]; exact List.take_of_length_le (by omega)⟩), encNode_len, by omega⟩
  have H := rest_ok (Heap.ro L) _ l ok need hnl s (nb := 1) (ib := 2) (gn := 1) (gi := 2) (rn := false) (ri := false) (by rw [Heap.get_ro]; rfl) (by rw [Heap.get_ro]; rfl)
  have A : At W 112 [{ target := .collected D, args := #[] }] m2 (Heap.ro L) m2 [(0, .slice (some ⟨0, 0, none⟩) l.length 4), (3, .pointer (some ⟨2, 0, none⟩))] (Heap.ro L) a W := by
    refine ⟨R2, ⟨hsz, fun s v e => ?_⟩, hd, Step.refl _ _⟩
    rw [Env.get_cons, Env.get_cons, Env.get_nil] at e
    split at e
    · rename_i q
      have q : s = 0 := by simpa using q.symm
      cases e; subst q
      exact ⟨_, t0, .slice 0 0 l.length 4 nb no Sn no cn rfl hcn.1 (.inr ⟨rfl, by omega⟩)⟩
    · split at e
      · rename_i q
        have q : s = 3 := by simpa using q.symm
        cases e; subst q
        exact ⟨_, t3, .ptr 2 0 pb po Sp rfl⟩
      · cases e
  refine wp_mono (sw_sound c c12_48 hs _ m2 _ _ a W A H) ?_
  rintro e a' w' ⟨m', E', h', A', k⟩
  have fin : ∀ vs, RV.evs E' h' v12 = some vs → (∃ r, vs = [r] ∧ Fresh (Heap.ro L) h' encNode 4 r (outK l need l.length).2) → bodyPostM Fence.wide 10 Try.prog Try.f12 Rf .ret a' w' := by
    rintro vs hv ⟨r, rfl, F⟩
    obtain ⟨r', e1, r1⟩ := run_results A' (show slimRVs Try.prog Try.f12.results.toList = some v12 by rfl) hv
    have r1 : VR m' r r' := r1
    obtain ⟨g, hg, O⟩ := F.2
    obtain ⟨mm, KK, v, Q1, Q2, Q3, Q4⟩ := adopt R A'.rel r1 O (fun x _ v hv => by simp [encNode] at hv; rcases hv with rfl | rfl | rfl | rfl <;> rfl)
    have hD' : w'.heap[D]? = some (.deferred (some [])) := by
      rw [A'.rel.below.block D (Array.getElem?_eq_some_iff.mp hD).1]; exact hD
    show LeavesInM Fence.wide 10 Try.prog Try.f12 a'.tmps _ a'.defers .returning w'
    rw [A'.nodefer]
    refine ⟨by simp, .inl ⟨D, _, rfl, run_takeDeferred hD', ?_⟩⟩
    have e2 : (results Try.f12 a'.tmps).run Try.prog (w'.putObj D (.deferred none)) = .ok r' (w'.putObj D (.deferred none)) := by
      have q := fun w => results_tmp (fn := Try.f12) (t := 2) rfl a'.tmps Try.prog w
      rw [q] at e1 ⊢
      cases e1; rfl
    refine ⟨_, e2, hRf _ _ ⟨r', v, KK, mm, rfl, ?_, Q2, Q3, Q4⟩⟩
    refine relKept Q1 (fun b c e f hb => ?_) ?_
    · rw [World.putObj_heap_other (fun q => by subst q; rw [hD'] at hb; cases hb)]; exact hb
    · exact Q1.below.grown (grownBy_putObj' w' D _) Q1.below.size (fun k q => by cases q; exact hWD)
  cases e with
  | ret =>
    obtain ⟨vs, hv, hR⟩ := k
    refine fin vs hv ?_
    obtain ⟨r, rfl⟩ := one_ev hv
    exact ⟨r, rfl, hR⟩
  | normal =>
    obtain ⟨vs, hv, hR⟩ := k
    refine fin vs hv ?_
    obtain ⟨r, rfl⟩ := one_ev hv
    exact ⟨r, rfl, hR⟩
  | exit i => exact k.elim
  | goto q => exact k.elim
  | panic ch => exact k.elim
  | outgrown => exact k.elim
end Go.Proofs.Ytdagajblnlemaaa
