/- The law FnListBack answers true at every input and leaves what came in as it was: the walk of its code by the logic Ah, joined to the given row. -/
import Derived.Test.YtgmimgmdbpcecaaGreatDoorZbN
import Derived.Test.YtgmimgmdbpcecaaGreatDoorRows
import Derived.Test.YtgmimgmdbpcecaaGreatDoorCards
import Derived.Test.YtgmimgmdbpcecaaGreatDoorTie
import Derived.Test.YtgmimgmdbpcecaaGreatDoorAhX
import Derived.WalkKit
import Derived.ProofKit
import Derived.OpenShut
import Derived.ShutString
import Derived.ChangeOld
import Derived.Below
import Derived.SizedLaws
import Derived.HandedShaped
import Derived.LaidMore
import Derived.Lay
import Derived.SevenTiedAt
import Derived.LaidLaws
import Derived.MakeChecks
import Derived.Shelf.Vars
namespace Go.Proofs.YtgmimgmdbpcecaaGreatDoor.fnListBack
open Go Go.Ah Go.ChangeShapes Go.WideShapes Go.ChangeAt Go.RowKit
set_option linter.unusedVariables false
set_option linter.unusedSimpArgs false
theorem own : ownKnob Tryz.prog.godebug = none := by kernel_rfl
theorem laidOut : laidOutB Tryz.prog = true := by kernel_rfl
theorem decByte (h : Heap) (cs : List Value) (r : Rds h (.int .u8) cs) : ∃ x : Int, cs = encByte x ∧ True := by
  obtain ⟨a, rfl, b⟩ := r
  exact ⟨a, rfl, trivial⟩
set_option maxRecDepth 100000 in
theorem walk {H : Type} {enc : TypeId × Value → H} (W : World) (hsh : W.ShapedOpen Tryz.prog) (hL : laidMetH Tryz.prog Rows.fnListBackRow.laid W) (base : Nat) (v0 : Value) {d0 : DataW H} {p0 : List MemPlace} (t0 : DataW.Trod enc Tryz.prog W 0 (fun _ => true) true 35 v0 d0 p0) (o0 : Value.okWide Tryz.prog W .any base 35 v0) :
    Calls Tryz.prog 4 #[v0] W fun e w' => e = .returned (.bool true) ∧ Below W.heap.size W w' := by
  have gl : Gl W := gl_ofB hsh hL
  obtain ⟨L0, m0, w0, g0, gr0, vr0, rd0⟩ := open_param (s := .slc (.int .u8)) (by kernel_rfl) t0 o0 (Good.nil W)
  obtain ⟨l0, s0, n0, q0⟩ := RdV.list (enc := encByte) (fun _ => rfl) (by decide) (decByte _) rd0
  exact ACall.law (g0.rel gl) (.cons vr0 (.nil _)) (FnListBack_ok _ w0 l0 s0 n0)
set_option maxRecDepth 100000 in
theorem lifted (os : Os) (started : os.Started) (H : Type) (enc : TypeId × Value → H) :
    ReturnsInHanded {} Tryz.checked os 4 .any (fun w args => (Rows.fnListBackSpec.pre enc Tryz.prog Tryz.f4 Rows.fnListBackRow.domain false w args ∧ laidMetH Tryz.prog Rows.fnListBackRow.laid w) ∧ sizedMet enc Tryz.prog Tryz.f4 (OpenSpec.ofChange Rows.fnListBackSpec) false w args) (Rows.fnListBackSpec.post enc Tryz.prog Tryz.f4 false true false false) := by
  refine laid_shapedX (C := Tryz.checked) (X := fun w _ => laidMetH Tryz.prog Rows.fnListBackRow.laid w) (fun _ _ _ hh h => h.of_heap hh) own started (by kernel_rfl) Tryz.func4
    (ChangeSpec.witness_shaped (enc := enc) (C := Tryz.checked) (os := os) (X := fun w _ => laidMetH Tryz.prog Rows.fnListBackRow.laid w) false (World.laidAll Tryz.prog os Rows.fnListBackRow.laid) #[.slice none 0 0] 8 (World.laidAll_os _ _ _)
      (World.shaped_of_ZipB (by kernel_rfl) (by kernel_rfl)) (by kernel_rfl) (by kernel_rfl) (by kernel_rfl)
      (by rw [MakeChecks.laidMetH_plain _ _ _ (by kernel_rfl)]; exact laidMet_laidAll _ (by kernel_rfl) (by kernel_rfl))) ?_
  intro W base args ds gs before hval0 hW hcnd hsz0 hsh hL _
  have hval : ∀ (j : Nat) t v, Tryz.f4.params[j]? = some t → args[j]? = some v → Value.okWide Tryz.prog W .any base t v := hval0
  have hW' := hW
  obtain ⟨p, q, hA0, hV, rfl, hfz, hnd⟩ := hW
  have hA : DataW.TrodAll enc Tryz.prog W 0 (fun _ => true) true Tryz.f4.params.toList args.toList ds p := hA0
  rw [Tryz.params4] at hA hval
  obtain ⟨v0, vs0, d0, ds0, p0, q0, hargs, rfl, rfl, h0, r0⟩ := trodAll_cons hA
  obtain ⟨rfl, rfl, rfl⟩ := trodAll_nil r0
  obtain rfl : args = #[v0] := by cases args; simp_all
  obtain ⟨rfl, rfl⟩ := trodVars_none hV
  have k0 := h0
  have lt0 : ∀ x ∈ p0, x.block < W.heap.size := by obtain ⟨m, hm⟩ := k0; exact DataW.trod_lt m _ _ _ hm
  have oks := hval
  clear hA0 hval0 hsz0
  refine (walk W hsh hL base v0 h0 (oks 0 35 v0 rfl rfl)).mono fun e W' ⟨he, bel⟩ => ?_
  subst he
  exact ⟨_, rfl, _, _, _, [], _, [], hW', trodAll_mk1 (shut_bool Tryz.underlying4 _), (trodAll_cons_mk (Below.trod laidOut (by kernel_rfl) (of_decide_eq_true (by kernel_rfl)) k0 bel lt0) trodAll_mk0), rfl, bel.frame _, fun h => by cases h⟩
theorem over : Rows.fnListBackRow.holds Tryz.pinned (OpenSpec.ofChange Rows.fnListBackSpec) :=
  OpenClaim.holds_of_wide 4 Tryz.f4 rfl rfl rfl rfl rfl rfl rfl ⟨rfl, rfl, rfl, rfl, rfl⟩ rfl rfl rfl rfl rfl (by kernel_rfl) Tryz.func4 (by kernel_rfl)
    (of_decide_eq_true (by kernel_rfl)) (by unfold Func.isWrapper; first | (rw [if_pos (by decide +kernel)]; kernel_rfl) | (rw [if_neg (by decide +kernel)]; exact ⟨rfl, rfl⟩))
    (fun os started H enc _ => lifted os started H enc)
theorem proved : Rows.FnListBackCardSaid :=
  Claim7.holds_tied_plain_at .later [] [.data, .data, .data, .data, .pinned] true (true, "42af351caafb5c0aa504f8ad66396ba932f8b04a52ef3c83f37b7b76fd8d9661") false over (fun _ h => by cases h) (by kernel_rfl) (fun _ h => by cases h) fnListBack_row_tie rfl ⟨rfl, rfl⟩ (by kernel_rfl) rfl
    (fun f fn hf hfn => by
      obtain rfl : f = 4 := Option.some.inj ((show Tryz.prog.funcNamed "loop.example/g00066/laws.FnListBack" = some 4 by kernel_rfl).symm.trans hf) |>.symm
      obtain rfl : fn = Tryz.f4 := (Option.some.inj (Tryz.func4.symm.trans hfn)).symm
      exact ⟨by kernel_rfl, fun j t ht => by
        rw [Tryz.params4] at ht
        have hm : t ∈ [35] := by simpa using Array.mem_of_getElem? ht
        have hall : ([35].all fun u => !Tryz.prog.wantsStandIn u) = true := by kernel_rfl
        exact (show Tryz.prog.wantsStandIn t = false by simpa using List.all_eq_true.1 hall t hm)⟩)
    (by kernel_rfl)
end Go.Proofs.YtgmimgmdbpcecaaGreatDoor.fnListBack
namespace Go.Proofs.YtgmimgmdbpcecaaGreatDoor
/-- The row, under a short name, for the claim. -/
theorem fnListBack_holds : Rows.FnListBackCardSaid := fnListBack.proved
end Go.Proofs.YtgmimgmdbpcecaaGreatDoor
