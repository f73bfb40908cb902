/- The law FnExactCube answers true at every input and leaves what came in as it was: the walk of its code by the logic Ah, joined to the given row. -/
import Derived.Test.YtmhbmbhdeofbaaaLCube
import Derived.Test.YtmhbmbhdeofbaaaRows
import Derived.Test.YtmhbmbhdeofbaaaAhX
import Derived.WalkKit
import Derived.ProofKit
import Derived.OpenShut
import Derived.ShutString
import Derived.ChangeOld
import Derived.Below
import Derived.SizedLaws
namespace Go.Proofs.Ytmhbmbhdeofbaaa.fnExactCube
open Go Go.Ah Go.ChangeShapes Go.WideShapes Go.ChangeAt Go.RowKit
set_option linter.unusedVariables false
set_option linter.unusedSimpArgs false
theorem own : ownKnob Try.prog.godebug = none := by kernel_rfl
theorem laidOut : laidOutB Try.prog = true := by kernel_rfl
theorem decRgb (h : Heap) (cs : List Value) (r : Rds h (.cat (.int .i64) (.cat (.int .i64) (.cat (.int .i64) (.nil)))) cs) : ∃ x, cs = encRgb x ∧ ((-9223372036854775808 ≤ x.r ∧ x.r ≤ 9223372036854775807) ∧ (-9223372036854775808 ≤ x.g ∧ x.g ≤ 9223372036854775807) ∧ (-9223372036854775808 ≤ x.b ∧ x.b ≤ 9223372036854775807)) := by
  obtain ⟨_, _, rfl, ⟨a0, rfl, b0⟩, ⟨_, _, rfl, ⟨a1, rfl, b1⟩, ⟨_, _, rfl, ⟨a2, rfl, b2⟩, rfl⟩⟩⟩ := r
  exact ⟨⟨a0, a1, a2⟩, rfl, wf_i64 b0, wf_i64 b1, wf_i64 b2⟩
set_option maxRecDepth 100000 in
theorem walk {H : Type} {enc : TypeId × Value → H} (W : World) (base : Nat) (v0 v1 v2 : Value) {d0 : DataW H} {p0 : List MemPlace} {d1 : DataW H} {p1 : List MemPlace} {d2 : DataW H} {p2 : List MemPlace} (t0 : DataW.Trod enc Try.prog W 0 (fun _ => true) true 2 v0 d0 p0) (t1 : DataW.Trod enc Try.prog W 0 (fun _ => true) true 22 v1 d1 p1) (t2 : DataW.Trod enc Try.prog W 0 (fun _ => true) true 24 v2 d2 p2) (o0 : Value.okWide Try.prog W .any base 2 v0) (o1 : Value.okWide Try.prog W .any base 22 v1) (o2 : Value.okWide Try.prog W .any base 24 v2) :
    Calls Try.prog 3 #[v0, v1, v2] W fun e w' => e = .returned (.bool true) ∧ Below W.heap.size W w' := by
  obtain ⟨L0, m0, w0, g0, gr0, vr0, rd0⟩ := open_param (s := .int .i64) (by kernel_rfl) t0 o0 (Good.nil W)
  obtain ⟨L1, m1, w1, g1, gr1, vr1, rd1⟩ := open_param (s := .slc (.st (.cat (.int .i64) (.cat (.int .i64) (.cat (.int .i64) (.nil)))))) (by kernel_rfl) t1 o1 (g0)
  obtain ⟨L2, m2, w2, g2, gr2, vr2, rd2⟩ := open_param (s := .st (.cat (.int .i64) (.cat (.int .i64) (.cat (.int .i64) (.nil))))) (by kernel_rfl) t2 o2 (g1)
  have vr0 := vr0.mono ((gr1.trans gr2).le g0)
  have rd0 := rd0.ext (gr1.trans gr2).ext
  have vr1 := vr1.mono (gr2.le g1)
  have rd1 := rd1.ext gr2.ext
  obtain ⟨a0, rfl, i0⟩ := RdV.i64 rd0
  obtain ⟨l1, s1, n1, q1⟩ := RdV.list (enc := encRgb) (fun _ => rfl) (by decide) (decRgb _) rd1
  obtain ⟨k2, rfl, i2⟩ := RdV.one (decRgb _) rd2
  exact ACall.law g2.rel (.cons vr0 (.cons vr1 (.cons vr2 (.nil _)))) (FnExactCube_ok _ a0 w1 l1 k2 s1 n1 i0 q1 i2)
set_option maxRecDepth 100000 in
theorem lifted (os : Os) (started : os.Started) (H : Type) (enc : TypeId × Value → H) :
    ReturnsInHanded {} Try.checked os 3 .any (Rows.fnExactCubeSpec.pre6 enc Try.prog Try.f3 Rows.fnExactCubeRow.domain false) (Rows.fnExactCubeSpec.post enc Try.prog Try.f3 false true false false) := by
  refine returnsInHanded_of_change_sized (C := Try.checked) own started (by kernel_rfl) Try.func3
    (ChangeSpec.witness6 (enc := enc) (C := Try.checked) false ⟨#[], #[.int .i64 0, .slice none 0 0, .agg #[.int .i64 0, .int .i64 0, .int .i64 0]], []⟩ 8 (by kernel_rfl) (by kernel_rfl) (by kernel_rfl) (by kernel_rfl)) ?_
  intro W base args ds gs before hval0 hW hcnd hsz0 _
  have hval : ∀ (j : Nat) t v, Try.f3.params[j]? = some t → args[j]? = some v → Value.okWide Try.prog W .any base t v := hval0
  have hW' := hW
  obtain ⟨p, q, hA0, hV, rfl, hfz, hnd⟩ := hW
  have hA : DataW.TrodAll enc Try.prog W 0 (fun _ => true) true Try.f3.params.toList args.toList ds p := hA0
  rw [Try.params3] at hA hval
  obtain ⟨v0, vs0, d0, ds0, p0, q0, hargs, rfl, rfl, h0, r0⟩ := trodAll_cons hA
  obtain ⟨v1, vs1, d1, ds1, p1, q1, rfl, rfl, rfl, h1, r1⟩ := trodAll_cons r0
  obtain ⟨v2, vs2, d2, ds2, p2, q2, rfl, rfl, rfl, h2, r2⟩ := trodAll_cons r1
  obtain ⟨rfl, rfl, rfl⟩ := trodAll_nil r2
  obtain rfl : args = #[v0, v1, v2] := by cases args; simp_all
  obtain ⟨rfl, rfl⟩ := trodVars_none hV
  have k0 := h0
  have lt0 : ∀ x ∈ p0, x.block < W.heap.size := by obtain ⟨m, hm⟩ := k0; exact DataW.trod_lt m _ _ _ hm
  have k1 := h1
  have lt1 : ∀ x ∈ p1, x.block < W.heap.size := by obtain ⟨m, hm⟩ := k1; exact DataW.trod_lt m _ _ _ hm
  have k2 := h2
  have lt2 : ∀ x ∈ p2, x.block < W.heap.size := by obtain ⟨m, hm⟩ := k2; exact DataW.trod_lt m _ _ _ hm
  have oks := hval
  clear hA0 hval0 hsz0
  refine (walk W base v0 v1 v2 h0 h1 h2 (oks 0 2 v0 rfl rfl) (oks 1 22 v1 rfl rfl) (oks 2 24 v2 rfl rfl)).mono fun e W' ⟨he, bel⟩ => ?_
  subst he
  exact ⟨_, rfl, _, _, _, [], _, [], hW', trodAll_mk1 (shut_bool Try.underlying4 _), (trodAll_cons_mk (Below.trod laidOut (by kernel_rfl) (of_decide_eq_true (by kernel_rfl)) k0 bel lt0) (trodAll_cons_mk (Below.trod laidOut (by kernel_rfl) (of_decide_eq_true (by kernel_rfl)) k1 bel lt1) (trodAll_cons_mk (Below.trod laidOut (by kernel_rfl) (of_decide_eq_true (by kernel_rfl)) k2 bel lt2) trodAll_mk0))), rfl, bel.frame _, fun h => by cases h⟩
theorem over : Rows.fnExactCubeRow.holds Try.pinned (OpenSpec.ofChange Rows.fnExactCubeSpec) :=
  OpenClaim.holds_of_wide 3 Try.f3 rfl rfl rfl rfl rfl rfl rfl ⟨rfl, rfl, rfl, rfl, rfl⟩ rfl rfl rfl rfl rfl (by kernel_rfl) Try.func3 (by kernel_rfl)
    (of_decide_eq_true (by kernel_rfl)) (by unfold Func.isWrapper; first | (rw [if_pos (by decide +kernel)]; kernel_rfl) | (rw [if_neg (by decide +kernel)]; exact ⟨rfl, rfl⟩))
    (fun os started H enc _ => lifted os started H enc)
theorem proved : Rows.FnExactCubeSaid := over
end Go.Proofs.Ytmhbmbhdeofbaaa.fnExactCube
namespace Go.Proofs.Ytmhbmbhdeofbaaa
/-- The row, under a short name, for the claim. -/
theorem fnExactCube_holds : Rows.FnExactCubeSaid := fnExactCube.proved
end Go.Proofs.Ytmhbmbhdeofbaaa
