import Derived.Test.YtdagajblnlemaaaP16
namespace Go.Proofs.Ytdagajblnlemaaa
open Go Go.Ah Go.RowKit
set_option linter.unusedVariables false
set_option maxRecDepth 100000
set_option maxHeartbeats 4000000
theorem join_ok {r0 s' r3 r4 r5 rest asg bdy : Code} {g : Operand} {ps : Array Tmp} (hc : Try.f12.body = some (.seq r0 (.seq s' (.seq r3 (.seq r4 (.seq (.seq r5 (.block 0 (.rangeFunc g ps asg bdy))) rest))))))
    (q0 : slimC Try.prog 112 r0 = some (SCode.region c12_0 [0]).bare) (q1 : slimC Try.prog 112 s' = some c12_5.bare) (q2 : slimC Try.prog 112 r3 = some (SCode.region c12_6 [0, 3]).bare) (q3 : slimC Try.prog 112 r4 = some (SCode.region c12_7 [0, 3]).bare)
    (q4 : slimC Try.prog 112 r5 = some (SCode.region c12_8 [0, 3, 28]).bare) (hrest : slimC Try.prog 112 rest = some c12_48.bare) (h : Heap) (v : Value) (l : List Node) (s : SlT h encNode 4 v l) (hl : l.length ≤ 281474976710656) :
    ACall Try.prog 12 [v] h fun r h' => Fresh h h' encNode 4 r (prunedF l) := by
  intro W0 m w args' r va
  refine callsIn_wide.1 (callsIn_of_wp_marks (n := 10) (R := EndsF W0 m h (prunedF l)) Try.func12 hc trivial (wpIn_wide.2 ?_))|>.mono ?_
  · have hn : Try.f12.ntmps = 112 := rfl
    have h1 : args'.length = 1 := by have := va.1; simpa using this.symm
    have A : At W0 112 [] m h m (env0 0 [v]) h { tmps := args'.toArray ++ Array.replicate (Try.f12.ntmps - args'.toArray.size) undef, defers := [] } w := by
      refine ⟨r, ⟨by rw [hn]; simp [h1], fun q x e => ?_⟩, rfl, .refl m h⟩
      obtain ⟨_, e⟩ := env0_get [v] 0 q x e
      obtain ⟨v', e1, r1⟩ := va.2 _ x e
      refine ⟨v', ?_, r1⟩
      have := (List.getElem?_eq_some_iff.mp e1).1
      rw [Array.getElem?_append_left (by simpa using this)]; simpa using e1
    have hx : ∀ (e : Go.Exit) (m' : Map) (E : Env) (h' : Heap) (a : Act) (w' : World), e ≠ .normal → At W0 112 [] m h m' E h' a w' → preQ h v l e E h' → bodyPostM Fence.wide 10 Try.prog Try.f12 (EndsF W0 m h (prunedF l)) e a w' := by
      intro e m' E h' a w' hne A2 k
      cases e with
      | normal => exact absurd rfl hne
      | ret =>
        obtain ⟨vs, hv, hR⟩ := k
        obtain ⟨r', e1, r1⟩ := run_results A2 (show slimRVs Try.prog Try.f12.results.toList = some v12 by rfl) hv
        show LeavesInM Fence.wide 10 Try.prog Try.f12 a.tmps _ a.defers .returning w'
        rw [A2.nodefer]
        exact ⟨_, e1, r', _, h', m', rfl, A2.rel, A2.step, r1, hR⟩
      | exit i => exact k.elim
      | goto i => exact k.elim
      | panic i => exact k.elim
      | outgrown => exact k.elim
    refine peel q0 A (pre_ok h v l s hl) (fun m1 E1 h1 a1 w1 A1 H1 => peel q1 A1 H1 (fun m1 E1 h1 a1 w1 A1 H1 => peel q2 A1 H1 (fun m1 E1 h1 a1 w1 A1 H1 => peel q3 A1 H1 (fun m1 E1 h1 a1 w1 A1 H1 => ?_) hx) hx) hx) hx
    refine wp_seq (wp_seq (wp_mono (sw_sound r5 _ q4 _ m1 E1 h1 a1 w1 A1 H1) ?_))
    rintro e a2 w2 ⟨m2, E2, h2, A2, k2⟩
    cases e with
    | normal => exact hole_ok hc hrest A2 s k2
    | ret => exact hx .ret _ _ _ _ _ (by simp) A2 k2
    | exit i => exact k2.elim
    | goto i => exact k2.elim
    | panic i => exact k2.elim
    | outgrown => exact k2.elim
  · rintro e w' ⟨v', r, h', m', h1, h2, h3, h4, h5⟩
    exact ⟨v', r, h', m', h1, h2, h3, h4, h5⟩
end Go.Proofs.Ytdagajblnlemaaa
