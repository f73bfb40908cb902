/- The law FnExactSameGraph answers true at every input and leaves what came in as it was: the walk of its code by the logic Ah, joined to the given row. -/
import Derived.Test.YtdagajblnlemaaaLSameGraph
import Derived.Test.YtdagajblnlemaaaRows
import Derived.Test.YtdagajblnlemaaaAhX
import Derived.WalkKit
import Derived.ProofKit
import Derived.OpenShut
import Derived.ShutString
import Derived.ChangeOld
import Derived.Below
import Derived.SizedLaws
namespace Go.Proofs.Ytdagajblnlemaaa.fnExactSameGraph
open Go Go.Ah Go.ChangeShapes Go.WideShapes Go.ChangeAt Go.RowKit
set_option linter.unusedVariables false
set_option linter.unusedSimpArgs false
theorem own : ownKnob Try.prog.godebug = none := by kernel_rfl
theorem laidOut : laidOutB Try.prog = true := by kernel_rfl
theorem decNode (h : Heap) (cs : List Value) (r : Rds h (.cat (.int .i64) (.cat (.int .i64) (.cat (.int .i64) (.cat (.flt .f64) .nil)))) cs) : ∃ x, cs = encNode x ∧ True := by
  obtain ⟨_, _, rfl, ⟨a0, rfl, b0⟩, ⟨_, _, rfl, ⟨a1, rfl, b1⟩, ⟨_, _, rfl, ⟨a2, rfl, b2⟩, ⟨_, _, rfl, ⟨a3, rfl, b3⟩, rfl⟩⟩⟩⟩ := r
  exact ⟨⟨a0, a1, a2, a3⟩, rfl, trivial⟩
set_option maxRecDepth 100000 in
theorem walk {H : Type} {enc : TypeId × Value → H} (W : World) (base : Nat) (v0 v1 : Value) {d0 : DataW H} {p0 : List MemPlace} {d1 : DataW H} {p1 : List MemPlace} (t0 : DataW.Trod enc Try.prog W 0 (fun _ => true) true 22 v0 d0 p0) (t1 : DataW.Trod enc Try.prog W 0 (fun _ => true) true 22 v1 d1 p1) (o0 : Value.okWide Try.prog W .any base 22 v0) (o1 : Value.okWide Try.prog W .any base 22 v1) :
    Calls Try.prog 4 #[v0, v1] W fun e w' => e = .returned (.bool true) ∧ Below W.heap.size W w' := by
  obtain ⟨L0, m0, w0, g0, gr0, vr0, rd0⟩ := open_param (s := .slc (.st (.cat (.int .i64) (.cat (.int .i64) (.cat (.int .i64) (.cat (.flt .f64) .nil)))))) (by kernel_rfl) t0 o0 (Good.nil W)
  obtain ⟨L1, m1, w1, g1, gr1, vr1, rd1⟩ := open_param (s := .slc (.st (.cat (.int .i64) (.cat (.int .i64) (.cat (.int .i64) (.cat (.flt .f64) .nil)))))) (by kernel_rfl) t1 o1 (g0)
  have vr0 := vr0.mono (gr1.le g0)
  have rd0 := rd0.ext gr1.ext
  obtain ⟨l0, s0, n0, q0⟩ := RdV.list (enc := encNode) (fun _ => rfl) (by decide) (decNode _) rd0
  obtain ⟨l1, s1, n1, q1⟩ := RdV.list (enc := encNode) (fun _ => rfl) (by decide) (decNode _) rd1
  exact ACall.law (g1.rel (show Gl W from trivial)) (.cons vr0 (.cons vr1 (.nil _))) (FnExactSameGraph_ok _ w0 l0 w1 l1 s0 n0 s1 n1)
set_option maxRecDepth 100000 in
theorem lifted (os : Os) (started : os.Started) (H : Type) (enc : TypeId × Value → H) :
    ReturnsInHanded {} Try.checked os 4 .any (Rows.fnExactSameGraphSpec.pre6 enc Try.prog Try.f4 Rows.fnExactSameGraphRow.domain false) (Rows.fnExactSameGraphSpec.post enc Try.prog Try.f4 false true false false) := by
  refine returnsInHanded_of_change_sized (C := Try.checked) own started (by kernel_rfl) Try.func4
    (ChangeSpec.witness6 (enc := enc) (C := Try.checked) false ⟨#[], #[.slice none 0 0, .slice none 0 0], []⟩ 8 (by kernel_rfl) (by kernel_rfl) (by kernel_rfl) (by kernel_rfl)) ?_
  intro W base args ds gs before hval0 hW hcnd hsz0 _
  have hval : ∀ (j : Nat) t v, Try.f4.params[j]? = some t → args[j]? = some v → Value.okWide Try.prog W .any base t v := hval0
  have hW' := hW
  obtain ⟨p, q, hA0, hV, rfl, hfz, hnd⟩ := hW
  have hA : DataW.TrodAll enc Try.prog W 0 (fun _ => true) true Try.f4.params.toList args.toList ds p := hA0
  rw [Try.params4] at hA hval
  obtain ⟨v0, vs0, d0, ds0, p0, q0, hargs, rfl, rfl, h0, r0⟩ := trodAll_cons hA
  obtain ⟨v1, vs1, d1, ds1, p1, q1, rfl, rfl, rfl, h1, r1⟩ := trodAll_cons r0
  obtain ⟨rfl, rfl, rfl⟩ := trodAll_nil r1
  obtain rfl : args = #[v0, v1] := by cases args; simp_all
  obtain ⟨rfl, rfl⟩ := trodVars_none hV
  have k0 := h0
  have lt0 : ∀ x ∈ p0, x.block < W.heap.size := by obtain ⟨m, hm⟩ := k0; exact DataW.trod_lt m _ _ _ hm
  have k1 := h1
  have lt1 : ∀ x ∈ p1, x.block < W.heap.size := by obtain ⟨m, hm⟩ := k1; exact DataW.trod_lt m _ _ _ hm
  have oks := hval
  clear hA0 hval0 hsz0
  refine (walk W base v0 v1 h0 h1 (oks 0 22 v0 rfl rfl) (oks 1 22 v1 rfl rfl)).mono fun e W' ⟨he, bel⟩ => ?_
  subst he
  exact ⟨_, rfl, _, _, _, [], _, [], hW', trodAll_mk1 (shut_bool Try.underlying4 _), (trodAll_cons_mk (Below.trod laidOut (by kernel_rfl) (of_decide_eq_true (by kernel_rfl)) k0 bel lt0) (trodAll_cons_mk (Below.trod laidOut (by kernel_rfl) (of_decide_eq_true (by kernel_rfl)) k1 bel lt1) trodAll_mk0)), rfl, bel.frame _, fun h => by cases h⟩
theorem over : Rows.fnExactSameGraphRow.holds Try.pinned (OpenSpec.ofChange Rows.fnExactSameGraphSpec) :=
  OpenClaim.holds_of_wide 4 Try.f4 rfl rfl rfl rfl rfl rfl rfl ⟨rfl, rfl, rfl, rfl, rfl⟩ rfl rfl rfl rfl rfl (by kernel_rfl) Try.func4 (by kernel_rfl)
    (of_decide_eq_true (by kernel_rfl)) (by unfold Func.isWrapper; first | (rw [if_pos (by decide +kernel)]; kernel_rfl) | (rw [if_neg (by decide +kernel)]; exact ⟨rfl, rfl⟩))
    (fun os started H enc _ => lifted os started H enc)
theorem proved : Rows.FnExactSameGraphSaid := over
end Go.Proofs.Ytdagajblnlemaaa.fnExactSameGraph
namespace Go.Proofs.Ytdagajblnlemaaa
/-- The row, under a short name, for the claim. -/
theorem fnExactSameGraph_holds : Rows.FnExactSameGraphSaid := fnExactSameGraph.proved
end Go.Proofs.Ytdagajblnlemaaa
