/- The law FnExactLift answers true at every input and leaves what came in as it was: the walk of its code by the logic Ah, joined to the given row. -/
import Derived.Test.YtbanblghepekdaaLLift
import Derived.Test.YtbanblghepekdaaRows
import Derived.Test.YtbanblghepekdaaAhW
import Derived.WalkKit
import Derived.ProofKit
import Derived.OpenShut
import Derived.ShutString
import Derived.ChangeOld
import Derived.Below
import Derived.SizedLaws
namespace Go.Proofs.Ytbanblghepekdaa.fnExactLift
open Go Go.Ah Go.ChangeShapes Go.WideShapes Go.ChangeAt Go.RowKit
open Go.ChangeMaps (open_string shut_string)
set_option linter.unusedVariables false
set_option linter.unusedSimpArgs false
theorem own : ownKnob Try.prog.godebug = none := by kernel_rfl
theorem laidOut : laidOutB Try.prog = true := by kernel_rfl
theorem walk {H : Type} {enc : TypeId × Value → H} (W : World) (a1 a2 : Int) (v0 : Value) {d0 : DataW H} {p0 : List MemPlace} (tr : DataW.Trod enc Try.prog W 0 (fun _ => true) true 22 v0 d0 p0) (hv : ∃ a len cap, v0 = .slice a len cap) :
    Calls Try.prog 12 #[v0, .int .i64 a1, .int .i64 a2] W fun e w' => e = .returned (.bool true) ∧ Below W.heap.size W w' := by
  obtain ⟨fuel, hf⟩ := tr
  obtain ⟨a, len, cap, rfl⟩ := hv
  have hcs : (Value.slice a len cap).cells.toList = [.slice a len cap] := rfl
  rw [hcs] at hf
  have fin : ∀ (m : Map) (h : Heap) (w0 v0 : Value) (l : List Clip), Rel W m h W → VR m w0 v0 → SlT h encClip 3 w0 l → l.length ≤ 9223372036854775807 →
      Calls Try.prog 12 #[v0, .int .i64 a1, .int .i64 a2] W fun e w' => e = .returned (.bool true) ∧ Below W.heap.size W w' := by
    intro m h w0 v0 l r h0 s hl
    exact ACall.law r (show VRs m [w0, .int .i64 a1, .int .i64 a2] [v0, .int .i64 a1, .int .i64 a2] from .cons h0 (.cons (.int .i64 a1) (.cons (.int .i64 a2) (.nil m)))) (FnExactLift_ok h w0 l a1 a2 s hl)
  rcases open_flat (n := 3) (by kernel_rfl : Try.prog.underlying 22 = some (.slice 36)) (by kernel_rfl) hf with hq | ⟨x, hq⟩ | ⟨b, o, len', cap', S, z, hq, h1, h2, h3, ⟨c, e1, f, h4, h5⟩, h6⟩
  · simp only [List.cons.injEq, Value.slice.injEq, and_true] at hq
    obtain ⟨rfl, rfl, rfl⟩ := hq
    exact fin (fun _ => none) (Heap.ro []) (.slice none 0 0) _ [] (Rel.start W [] _ (fun _ _ => rfl) (fun i hi => by simp at hi)) .snone (SlT.nil _ encClip_len (by omega)) (by simp)
  · simp only [List.cons.injEq, Value.slice.injEq, and_true] at hq
    obtain ⟨rfl, rfl, rfl⟩ := hq
    exact fin (fun _ => none) (Heap.ro []) (.slice (some ⟨0, 0, some 0⟩) 0 3) _ [] (Rel.start W [] _ (fun _ _ => rfl) (fun i hi => by simp at hi)) (.sempty _ _) ⟨Sl.empty _ _, encClip_len, by omega⟩ (by simp)
  · simp only [List.cons.injEq, Value.slice.injEq, and_true] at hq
    obtain ⟨rfl, rfl, rfl⟩ := hq
    have hfl := flat_range (enc := encClip) (sz := 3) encClip_len (fun i => (⟨z (i * 3 + 0), z (i * 3 + 1), z (i * 3 + 2)⟩ : Clip)) (fun j => .int .i64 (z j)) (fun i f hf => by
      rcases (show f = 0 ∨ f = 1 ∨ f = 2 by omega) with rfl | rfl | rfl <;> simp [encClip]) len
    have hmul : len * 3 ≤ cap * 3 := Nat.mul_le_mul_right _ h1
    refine fin (fun i => if i = 0 then some (b, o, S) else none) (Heap.ro [(List.range (len * 3)).map fun j => .int .i64 (z j)]) (.slice (some ⟨0, 0, none⟩) len 3) _ ((List.range len).map fun i => ⟨z (i * 3 + 0), z (i * 3 + 1), z (i * 3 + 2)⟩) (Rel.start W _ _ (fun i hi => if_neg (by simp at hi; omega)) (fun i hi => ?_)) ?_ ⟨?_, encClip_len, by omega⟩ (by simp; simp [maxLen] at h2; omega)
    · have hi0 : i = 0 := by simp at hi; omega
      subst hi0
      refine ⟨b, o, S, c, e1, f, rfl, h4, h5, by simp; omega, fun j v ej => ?_⟩
      simp only [List.getElem_cons_zero, List.getElem?_map, Option.map_eq_some_iff] at ej
      obtain ⟨j', hj', rfl⟩ := ej
      obtain ⟨hj, rfl⟩ := List.getElem?_eq_some_iff.mp hj'
      simp only [List.length_range] at hj
      simp only [List.getElem_range]
      exact ⟨rfl, _, h6 j (by omega), .int _ _⟩
    · have := VR.slice (m := fun i => if i = 0 then some (b, o, S) else none) 0 0 len 3 b o S o cap rfl h1 (.inr ⟨rfl, h3⟩)
      exact this
    · refine .inr (.inr ⟨0, 0, len, _, rfl, Heap.get_ro _ 0, rfl, by simp, ?_⟩)
      rw [hfl]; simp only [List.drop_zero]; exact List.take_of_length_le (by simp)
set_option maxRecDepth 100000 in
theorem lifted (os : Os) (started : os.Started) (H : Type) (enc : TypeId × Value → H) :
    ReturnsInHanded {} Try.checked os 12 .any (Rows.fnExactLiftSpec.pre6 enc Try.prog Try.f12 Rows.fnExactLiftRow.domain false) (Rows.fnExactLiftSpec.post enc Try.prog Try.f12 false true false false) := by
  refine returnsInHanded_of_change_sized (C := Try.checked) own started (by kernel_rfl) Try.func12
    (ChangeSpec.witness6 (enc := enc) (C := Try.checked) false ⟨#[], #[.slice none 0 0, .int .i64 0, .int .i64 0], []⟩ 8 (by kernel_rfl) (by kernel_rfl) (by kernel_rfl) (by kernel_rfl)) ?_
  intro W base args ds gs before hval0 hW hcnd hsz0 _
  have hval : ∀ (j : Nat) t v, Try.f12.params[j]? = some t → args[j]? = some v → Value.okWide Try.prog W .any base t v := hval0
  have hW' := hW
  obtain ⟨p, q, hA0, hV, rfl, hfz, hnd⟩ := hW
  have hA : DataW.TrodAll enc Try.prog W 0 (fun _ => true) true Try.f12.params.toList args.toList ds p := hA0
  rw [Try.params12] at hA hval
  obtain ⟨v0, vs0, d0, ds0, p0, q0, hargs, rfl, rfl, h0, r0⟩ := trodAll_cons hA
  obtain ⟨v1, vs1, d1, ds1, p1, q1, rfl, rfl, rfl, h1, r1⟩ := trodAll_cons r0
  obtain ⟨v2, vs2, d2, ds2, p2, q2, rfl, rfl, rfl, h2, r2⟩ := trodAll_cons r1
  obtain ⟨rfl, rfl, rfl⟩ := trodAll_nil r2
  obtain rfl : args = #[v0, v1, v2] := by cases args; simp_all
  obtain ⟨rfl, rfl⟩ := trodVars_none hV
  have s0 := okWide_slice Try.underlying22 (hval 0 22 v0 rfl rfl)
  have k0 := h0
  have lt0 : ∀ x ∈ p0, x.block < W.heap.size := by obtain ⟨m, hm⟩ := k0; exact DataW.trod_lt m _ _ _ hm
  obtain ⟨a1, rfl, rfl, rfl, w1⟩ := open_int Try.underlying2 (hval 1 2 v1 rfl rfl) h1
  obtain ⟨a2, rfl, rfl, rfl, w2⟩ := open_int Try.underlying2 (hval 2 2 v2 rfl rfl) h2
  clear hA0 hval0 hsz0
  refine (walk W a1 a2 v0 h0 s0).mono fun e W' ⟨he, bel⟩ => ?_
  subst he
  exact ⟨_, rfl, _, _, _, [], _, [], hW', trodAll_mk1 (shut_bool Try.underlying4 _), (trodAll_cons_mk (Below.trod laidOut (by kernel_rfl) (of_decide_eq_true (by kernel_rfl)) k0 bel lt0) (trodAll_cons_mk (shut_int Try.underlying2 w1) (trodAll_cons_mk (shut_int Try.underlying2 w2) trodAll_mk0))), rfl, bel.frame _, fun h => by cases h⟩
theorem over : Rows.fnExactLiftRow.holds Try.pinned (OpenSpec.ofChange Rows.fnExactLiftSpec) :=
  OpenClaim.holds_of_wide 12 Try.f12 rfl rfl rfl rfl rfl rfl rfl ⟨rfl, rfl, rfl, rfl, rfl⟩ rfl rfl rfl rfl rfl (by kernel_rfl) Try.func12 (by kernel_rfl)
    (of_decide_eq_true (by kernel_rfl)) (by unfold Func.isWrapper; first | (rw [if_pos (by decide +kernel)]; kernel_rfl) | (rw [if_neg (by decide +kernel)]; exact ⟨rfl, rfl⟩))
    (fun os started H enc _ => lifted os started H enc)
theorem proved : Rows.FnExactLiftSaid := over
end Go.Proofs.Ytbanblghepekdaa.fnExactLift
namespace Go.Proofs.Ytbanblghepekdaa
/-- The row, under a short name, for the claim. -/
theorem fnExactLift_holds : Rows.FnExactLiftSaid := fnExactLift.proved
end Go.Proofs.Ytbanblghepekdaa
