/- The law FnExactReadList answers true at every input and leaves what came in as it was: the walk of its code by the logic Ah, joined to the given row. -/
import Derived.Test.YtgmimgmdbpcecaaGreatDoorZrL
import Derived.Test.YtgmimgmdbpcecaaGreatDoorRows
import Derived.Test.YtgmimgmdbpcecaaGreatDoorCards
import Derived.Test.YtgmimgmdbpcecaaGreatDoorTie
import Derived.Test.YtgmimgmdbpcecaaGreatDoorAhX
import Derived.WalkKit
import Derived.ProofKit
import Derived.OpenShut
import Derived.ShutString
import Derived.ChangeOld
import Derived.Below
import Derived.SizedLaws
import Derived.HandedShaped
import Derived.LaidMore
import Derived.Lay
import Derived.SevenTiedAt
import Derived.LaidLaws
import Derived.MakeChecks
import Derived.Shelf.Vars
namespace Go.Proofs.YtgmimgmdbpcecaaGreatDoor.fnExactReadList
open Go Go.Ah Go.ChangeShapes Go.WideShapes Go.ChangeAt Go.RowKit
set_option linter.unusedVariables false
set_option linter.unusedSimpArgs false
theorem own : ownKnob Tryz.prog.godebug = none := by kernel_rfl
theorem laidOut : laidOutB Tryz.prog = true := by kernel_rfl
theorem decRate (h : Heap) (cs : List Value) (r : Rds h (.cat (.int .i64) (.cat (.int .i64) (.cat .bool .nil))) cs) : ∃ x : Rate, cs = encRate x ∧ True := by
  obtain ⟨_, _, rfl, ⟨a0, rfl, b0⟩, _, _, rfl, ⟨a1, rfl, b1⟩, _, _, rfl, ⟨a2, rfl⟩, rfl⟩ := r
  exact ⟨⟨a0, a1, a2⟩, rfl, trivial⟩
set_option maxRecDepth 100000 in
theorem walk {H : Type} {enc : TypeId × Value → H} (W : World) (hsh : W.ShapedOpen Tryz.prog) (hL : laidMetH Tryz.prog Rows.fnExactReadListRow.laid W) (base : Nat) (v0 v1 : Value) {d0 : DataW H} {p0 : List MemPlace} {d1 : DataW H} {p1 : List MemPlace} (t0 : DataW.Trod enc Tryz.prog W 0 (fun _ => true) true 23 v0 d0 p0) (t1 : DataW.Trod enc Tryz.prog W 0 (fun _ => true) true 9 v1 d1 p1) (o0 : Value.okWide Tryz.prog W .any base 23 v0) (o1 : Value.okWide Tryz.prog W .any base 9 v1) :
    Calls Tryz.prog 3 #[v0, v1] W fun e w' => e = .returned (.bool true) ∧ Below W.heap.size W w' := by
  have gl : Gl W := gl_ofR hsh hL
  obtain ⟨L0, m0, w0, g0, gr0, vr0, rd0⟩ := open_param (s := .st (.cat (.int .i64) (.cat (.int .i64) (.cat .bool .nil)))) (by kernel_rfl) t0 o0 (Good.nil W)
  obtain ⟨L1, m1, w1, g1, gr1, vr1, rd1⟩ := open_param (s := .str) (by kernel_rfl) t1 o1 (g0)
  have vr0 := vr0.mono (gr1.le g0)
  have rd0 := rd0.ext gr1.ext
  obtain ⟨k0, rfl, i0⟩ := RdV.one (decRate _) rd0
  obtain ⟨a1, rfl, i1⟩ := RdV.str rd1
  exact ACall.law (g1.rel gl) (.cons vr0 (.cons vr1 (.nil _))) (FnExactReadList_ok _ k0 a1 i1)
set_option maxRecDepth 100000 in
theorem lifted (os : Os) (started : os.Started) (H : Type) (enc : TypeId × Value → H) :
    ReturnsInHanded {} Tryz.checked os 3 .any (fun w args => (Rows.fnExactReadListSpec.pre enc Tryz.prog Tryz.f3 Rows.fnExactReadListRow.domain false w args ∧ laidMetH Tryz.prog Rows.fnExactReadListRow.laid w) ∧ sizedMet enc Tryz.prog Tryz.f3 (OpenSpec.ofChange Rows.fnExactReadListSpec) false w args) (Rows.fnExactReadListSpec.post enc Tryz.prog Tryz.f3 false true false false) := by
  refine laid_shapedX (C := Tryz.checked) (X := fun w _ => laidMetH Tryz.prog Rows.fnExactReadListRow.laid w) (fun _ _ _ hh h => h.of_heap hh) own started (by kernel_rfl) Tryz.func3
    (ChangeSpec.witness_shaped (enc := enc) (C := Tryz.checked) (os := os) (X := fun w _ => laidMetH Tryz.prog Rows.fnExactReadListRow.laid w) false (World.laidAll Tryz.prog os Rows.fnExactReadListRow.laid) #[.agg #[.int .i64 0, .int .i64 0, .bool false], .string ⟨#[]⟩] 8 (World.laidAll_os _ _ _)
      (World.shaped_of_ZipB (by kernel_rfl) (by kernel_rfl)) (by kernel_rfl) (by kernel_rfl) (by kernel_rfl)
      (by rw [MakeChecks.laidMetH_plain _ _ _ (by kernel_rfl)]; exact laidMet_laidAll _ (by kernel_rfl) (by kernel_rfl))) ?_
  intro W base args ds gs before hval0 hW hcnd hsz0 hsh hL _
  have hval : ∀ (j : Nat) t v, Tryz.f3.params[j]? = some t → args[j]? = some v → Value.okWide Tryz.prog W .any base t v := hval0
  have hW' := hW
  obtain ⟨p, q, hA0, hV, rfl, hfz, hnd⟩ := hW
  have hA : DataW.TrodAll enc Tryz.prog W 0 (fun _ => true) true Tryz.f3.params.toList args.toList ds p := hA0
  rw [Tryz.params3] at hA hval
  obtain ⟨v0, vs0, d0, ds0, p0, q0, hargs, rfl, rfl, h0, r0⟩ := trodAll_cons hA
  obtain ⟨v1, vs1, d1, ds1, p1, q1, rfl, rfl, rfl, h1, r1⟩ := trodAll_cons r0
  obtain ⟨rfl, rfl, rfl⟩ := trodAll_nil r1
  obtain rfl : args = #[v0, v1] := by cases args; simp_all
  obtain ⟨rfl, rfl⟩ := trodVars_none hV
  have k0 := h0
  have lt0 : ∀ x ∈ p0, x.block < W.heap.size := by obtain ⟨m, hm⟩ := k0; exact DataW.trod_lt m _ _ _ hm
  have k1 := h1
  have lt1 : ∀ x ∈ p1, x.block < W.heap.size := by obtain ⟨m, hm⟩ := k1; exact DataW.trod_lt m _ _ _ hm
  have oks := hval
  clear hA0 hval0 hsz0
  refine (walk W hsh hL base v0 v1 h0 h1 (oks 0 23 v0 rfl rfl) (oks 1 9 v1 rfl rfl)).mono fun e W' ⟨he, bel⟩ => ?_
  subst he
  exact ⟨_, rfl, _, _, _, [], _, [], hW', trodAll_mk1 (shut_bool Tryz.underlying4 _), (trodAll_cons_mk (Below.trod laidOut (by kernel_rfl) (of_decide_eq_true (by kernel_rfl)) k0 bel lt0) (trodAll_cons_mk (Below.trod laidOut (by kernel_rfl) (of_decide_eq_true (by kernel_rfl)) k1 bel lt1) trodAll_mk0)), rfl, bel.frame _, fun h => by cases h⟩
theorem over : Rows.fnExactReadListRow.holds Tryz.pinned (OpenSpec.ofChange Rows.fnExactReadListSpec) :=
  OpenClaim.holds_of_wide 3 Tryz.f3 rfl rfl rfl rfl rfl rfl rfl ⟨rfl, rfl, rfl, rfl, rfl⟩ rfl rfl rfl rfl rfl (by kernel_rfl) Tryz.func3 (by kernel_rfl)
    (of_decide_eq_true (by kernel_rfl)) (by unfold Func.isWrapper; first | (rw [if_pos (by decide +kernel)]; kernel_rfl) | (rw [if_neg (by decide +kernel)]; exact ⟨rfl, rfl⟩))
    (fun os started H enc _ => lifted os started H enc)
theorem proved : Rows.FnExactReadListCardSaid :=
  Claim7.holds_tied_plain_at .later [] [.data, .data, .data, .data, .pinned] true (true, "42af351caafb5c0aa504f8ad66396ba932f8b04a52ef3c83f37b7b76fd8d9661") false over (fun _ h => by cases h) (by kernel_rfl) (fun _ h => by cases h) fnExactReadList_row_tie rfl ⟨rfl, rfl⟩ (by kernel_rfl) rfl
    (fun f fn hf hfn => by
      obtain rfl : f = 3 := Option.some.inj ((show Tryz.prog.funcNamed "loop.example/g00066/laws.FnExactReadList" = some 3 by kernel_rfl).symm.trans hf) |>.symm
      obtain rfl : fn = Tryz.f3 := (Option.some.inj (Tryz.func3.symm.trans hfn)).symm
      exact ⟨by kernel_rfl, fun j t ht => by
        rw [Tryz.params3] at ht
        have hm : t ∈ [23, 9] := by simpa using Array.mem_of_getElem? ht
        have hall : ([23, 9].all fun u => !Tryz.prog.wantsStandIn u) = true := by kernel_rfl
        exact (show Tryz.prog.wantsStandIn t = false by simpa using List.all_eq_true.1 hall t hm)⟩)
    (by kernel_rfl)
end Go.Proofs.YtgmimgmdbpcecaaGreatDoor.fnExactReadList
namespace Go.Proofs.YtgmimgmdbpcecaaGreatDoor
/-- The row, under a short name, for the claim. -/
theorem fnExactReadList_holds : Rows.FnExactReadListCardSaid := fnExactReadList.proved
end Go.Proofs.YtgmimgmdbpcecaaGreatDoor
