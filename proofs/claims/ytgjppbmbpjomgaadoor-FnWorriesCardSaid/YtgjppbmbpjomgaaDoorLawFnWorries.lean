/- The law FnWorries answers true at every input and leaves what came in as it was: the walk of its code by the logic Ah, joined to the given row. -/
import Derived.Test.YtgjppbmbpjomgaaDoorDWorries
import Derived.Test.YtgjppbmbpjomgaaDoorRows
import Derived.Test.YtgjppbmbpjomgaaDoorCards
import Derived.Test.YtgjppbmbpjomgaaDoorTie
import Derived.Test.YtgjppbmbpjomgaaDoorKD
import Derived.Test.YtgjppbmbpjomgaaDoorAhX
import Derived.WalkKit
import Derived.ProofKit
import Derived.OpenShut
import Derived.ShutString
import Derived.ChangeOld
import Derived.Below
import Derived.SizedLaws
import Derived.HandedShaped
import Derived.LaidMore
import Derived.Lay
import Derived.SevenTiedAt
import Derived.LaidLaws
import Derived.MakeChecks
import Derived.Shelf.Vars
namespace Go.Proofs.YtgjppbmbpjomgaaDoor.fnWorries
open Go Go.Ah Go.ChangeShapes Go.WideShapes Go.ChangeAt Go.RowKit
set_option linter.unusedVariables false
set_option linter.unusedSimpArgs false
theorem own : ownKnob Tryd.prog.godebug = none := by kernel_rfl
theorem laidOut : laidOutB Tryd.prog = true := by kernel_rfl
theorem decByte (h : Heap) (cs : List Value) (r : Rds h (.int .u8) cs) : ∃ x : Int, cs = encByte x ∧ True := by
  obtain ⟨a, rfl, b⟩ := r
  exact ⟨a, rfl, trivial⟩
set_option maxRecDepth 100000 in
theorem walk {H : Type} {enc : TypeId × Value → H} (W : World) (hsh : W.ShapedOpen Tryd.prog) (base : Nat) (v0 : Value) {d0 : DataW H} {p0 : List MemPlace} (t0 : DataW.Trod enc Tryd.prog W 0 (fun _ => true) true 22 v0 d0 p0) (o0 : Value.okWide Tryd.prog W .any base 22 v0) :
    Calls Tryd.prog 3 #[v0] W fun e w' => e = .returned (.bool true) ∧ Below W.heap.size W w' := by
  have gl : Gl W := Go.Proofs.cell_of_shapedOpen_int (g := 0) (zero := #[.int .i64 0]) (t := 3) hsh (of_decide_eq_true (by kernel_rfl)) (by kernel_rfl) rfl (by kernel_rfl) (by kernel_rfl) Tryd.underlying3
  obtain ⟨L0, m0, w0, g0, gr0, vr0, rd0⟩ := open_param (s := .slc (.int .u8)) (by kernel_rfl) t0 o0 (Good.nil W)
  obtain ⟨l0, s0, n0, q0⟩ := RdV.list (enc := encByte) (fun _ => rfl) (by decide) (decByte _) rd0
  exact ACall.law (g0.rel gl) (.cons vr0 (.nil _)) (FnWorries_ok _ w0 l0 s0 n0)
set_option maxRecDepth 100000 in
theorem lifted (os : Os) (started : os.Started) (H : Type) (enc : TypeId × Value → H) :
    ReturnsInHanded {} Tryd.checked os 3 .any (fun w args => (Rows.fnWorriesSpec.pre enc Tryd.prog Tryd.f3 Rows.fnWorriesRow.domain false w args ∧ laidMetH Tryd.prog Rows.fnWorriesRow.laid w) ∧ sizedMet enc Tryd.prog Tryd.f3 (OpenSpec.ofChange Rows.fnWorriesSpec) false w args) (Rows.fnWorriesSpec.post enc Tryd.prog Tryd.f3 false true false false) := by
  refine laid_shaped (C := Tryd.checked) (X := fun w _ => laidMetH Tryd.prog Rows.fnWorriesRow.laid w) own started (by kernel_rfl) Tryd.func3
    (ChangeSpec.witness_shaped (enc := enc) (C := Tryd.checked) (os := os) (X := fun w _ => laidMetH Tryd.prog Rows.fnWorriesRow.laid w) false (World.laidAll Tryd.prog os Rows.fnWorriesRow.laid) #[.slice none 0 0] 8 (World.laidAll_os _ _ _)
      (World.shaped_of_ZipB (by kernel_rfl) (by kernel_rfl)) (by kernel_rfl) (by kernel_rfl) (by kernel_rfl)
      (by rw [MakeChecks.laidMetH_plain _ _ _ (by kernel_rfl)]; exact laidMet_laidAll _ (by kernel_rfl) (by kernel_rfl))) ?_
  intro W base args ds gs before hval0 hW hcnd hsz0 hsh _
  have hval : ∀ (j : Nat) t v, Tryd.f3.params[j]? = some t → args[j]? = some v → Value.okWide Tryd.prog W .any base t v := hval0
  have hW' := hW
  obtain ⟨p, q, hA0, hV, rfl, hfz, hnd⟩ := hW
  have hA : DataW.TrodAll enc Tryd.prog W 0 (fun _ => true) true Tryd.f3.params.toList args.toList ds p := hA0
  rw [Tryd.params3] at hA hval
  obtain ⟨v0, vs0, d0, ds0, p0, q0, hargs, rfl, rfl, h0, r0⟩ := trodAll_cons hA
  obtain ⟨rfl, rfl, rfl⟩ := trodAll_nil r0
  obtain rfl : args = #[v0] := by cases args; simp_all
  obtain ⟨rfl, rfl⟩ := trodVars_none hV
  have k0 := h0
  have lt0 : ∀ x ∈ p0, x.block < W.heap.size := by obtain ⟨m, hm⟩ := k0; exact DataW.trod_lt m _ _ _ hm
  have oks := hval
  clear hA0 hval0 hsz0
  refine (walk W hsh base v0 h0 (oks 0 22 v0 rfl rfl)).mono fun e W' ⟨he, bel⟩ => ?_
  subst he
  exact ⟨_, rfl, _, _, _, [], _, [], hW', trodAll_mk1 (shut_bool Tryd.underlying4 _), (trodAll_cons_mk (Below.trod laidOut (by kernel_rfl) (of_decide_eq_true (by kernel_rfl)) k0 bel lt0) trodAll_mk0), rfl, bel.frame _, fun h => by cases h⟩
theorem over : Rows.fnWorriesRow.holds Tryd.pinned (OpenSpec.ofChange Rows.fnWorriesSpec) :=
  OpenClaim.holds_of_wide 3 Tryd.f3 rfl rfl rfl rfl rfl rfl rfl ⟨rfl, rfl, rfl, rfl, rfl⟩ rfl rfl rfl rfl rfl (by kernel_rfl) Tryd.func3 (by kernel_rfl)
    (of_decide_eq_true (by kernel_rfl)) (by unfold Func.isWrapper; first | (rw [if_pos (by decide +kernel)]; kernel_rfl) | (rw [if_neg (by decide +kernel)]; exact ⟨rfl, rfl⟩))
    (fun os started H enc _ => lifted os started H enc)
theorem proved : Rows.FnWorriesCardSaid :=
  Claim7.holds_tied_plain_at .later [] [.data, .pinned] true (true, "32b3721331d731f6c67932734115484c74add2206da64d40027919549b399a81") false over (fun _ h => by cases h) (by kernel_rfl) (fun _ h => by cases h) fnWorries_row_tie rfl ⟨rfl, rfl⟩ (by kernel_rfl) rfl
    (fun f fn hf hfn => by
      obtain rfl : f = 3 := Option.some.inj ((show Tryd.prog.funcNamed "loop.example/g00066/laws.FnWorries" = some 3 by kernel_rfl).symm.trans hf) |>.symm
      obtain rfl : fn = Tryd.f3 := (Option.some.inj (Tryd.func3.symm.trans hfn)).symm
      exact ⟨by kernel_rfl, fun j t ht => by
        rw [Tryd.params3] at ht
        have hm : t ∈ [22] := by simpa using Array.mem_of_getElem? ht
        have hall : ([22].all fun u => !Tryd.prog.wantsStandIn u) = true := by kernel_rfl
        exact (show Tryd.prog.wantsStandIn t = false by simpa using List.all_eq_true.1 hall t hm)⟩)
    (by kernel_rfl)
end Go.Proofs.YtgjppbmbpjomgaaDoor.fnWorries
namespace Go.Proofs.YtgjppbmbpjomgaaDoor
/-- The row, under a short name, for the claim. -/
theorem fnWorries_holds : Rows.FnWorriesCardSaid := fnWorries.proved
end Go.Proofs.YtgjppbmbpjomgaaDoor
