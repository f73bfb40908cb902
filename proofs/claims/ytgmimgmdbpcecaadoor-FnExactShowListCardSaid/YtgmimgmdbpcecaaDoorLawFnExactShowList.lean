/- The law FnExactShowList answers true at every input and leaves what came in as it was: the walk of its code by the logic Ah, joined to the given row. -/
import Derived.Test.YtgmimgmdbpcecaaDoorLShowList
import Derived.Test.YtgmimgmdbpcecaaDoorRL
import Derived.Test.YtgmimgmdbpcecaaDoorRows
import Derived.Test.YtgmimgmdbpcecaaDoorCards
import Derived.Test.YtgmimgmdbpcecaaDoorTie
import Derived.Test.YtgmimgmdbpcecaaDoorKD2
import Derived.Test.YtgmimgmdbpcecaaDoorAhX
import Derived.WalkKit
import Derived.ProofKit
import Derived.OpenShut
import Derived.ShutString
import Derived.ChangeOld
import Derived.Below
import Derived.SizedLaws
import Derived.HandedShaped
import Derived.LaidMore
import Derived.Lay
import Derived.SevenTiedAt
import Derived.LaidLaws
import Derived.MakeChecks
import Derived.Shelf.Vars
namespace Go.Proofs.YtgmimgmdbpcecaaDoor.fnExactShowList
open Go Go.Ah Go.ChangeShapes Go.WideShapes Go.ChangeAt Go.RowKit
set_option linter.unusedVariables false
set_option linter.unusedSimpArgs false
theorem own : ownKnob Tryd.prog.godebug = none := by kernel_rfl
theorem laidOut : laidOutB Tryd.prog = true := by kernel_rfl
theorem decRate (h : Heap) (cs : List Value) (r : Rds h (.cat (.int .i64) (.cat (.int .i64) (.cat .bool .nil))) cs) : ∃ x : Rate, cs = encRate x ∧ True := by
  obtain ⟨_, _, rfl, ⟨a0, rfl, b0⟩, _, _, rfl, ⟨a1, rfl, b1⟩, _, _, rfl, ⟨a2, rfl⟩, rfl⟩ := r
  exact ⟨⟨a0, a1, a2⟩, rfl, trivial⟩
theorem decClip (h : Heap) (cs : List Value) (r : Rds h (.cat (.int .i64) (.cat (.int .i64) (.cat (.int .i64) (.nil)))) cs) : ∃ x, cs = encClip x ∧ ((-9223372036854775808 ≤ x.src ∧ x.src ≤ 9223372036854775807) ∧ (-9223372036854775808 ≤ x.inn ∧ x.inn ≤ 9223372036854775807) ∧ (-9223372036854775808 ≤ x.len ∧ x.len ≤ 9223372036854775807)) := by
  obtain ⟨_, _, rfl, ⟨a0, rfl, b0⟩, ⟨_, _, rfl, ⟨a1, rfl, b1⟩, ⟨_, _, rfl, ⟨a2, rfl, b2⟩, rfl⟩⟩⟩ := r
  exact ⟨⟨a0, a1, a2⟩, rfl, wf_i64 b0, wf_i64 b1, wf_i64 b2⟩
set_option maxRecDepth 100000 in
theorem walk {H : Type} {enc : TypeId × Value → H} (W : World) (hsh : W.ShapedOpen Tryd.prog) (hL : laidMetH Tryd.prog Rows.fnExactShowListRow.laid W) (base : Nat) (v0 v1 : Value) {d0 : DataW H} {p0 : List MemPlace} {d1 : DataW H} {p1 : List MemPlace} (t0 : DataW.Trod enc Tryd.prog W 0 (fun _ => true) true 23 v0 d0 p0) (t1 : DataW.Trod enc Tryd.prog W 0 (fun _ => true) true 24 v1 d1 p1) (o0 : Value.okWide Tryd.prog W .any base 23 v0) (o1 : Value.okWide Tryd.prog W .any base 24 v1) :
    Calls Tryd.prog 3 #[v0, v1] W fun e w' => e = .returned (.bool true) ∧ Below W.heap.size W w' := by
  have gl : Gl W := gl_of hL
  obtain ⟨L0, m0, w0, g0, gr0, vr0, rd0⟩ := open_param (s := .st (.cat (.int .i64) (.cat (.int .i64) (.cat .bool .nil)))) (by kernel_rfl) t0 o0 (Good.nil W)
  obtain ⟨L1, m1, w1, g1, gr1, vr1, rd1⟩ := open_param (s := .slc (.st (.cat (.int .i64) (.cat (.int .i64) (.cat (.int .i64) (.nil)))))) (by kernel_rfl) t1 o1 (g0)
  have vr0 := vr0.mono (gr1.le g0)
  have rd0 := rd0.ext gr1.ext
  obtain ⟨k0, rfl, i0⟩ := RdV.one (decRate _) rd0
  obtain ⟨l1, s1, n1, q1⟩ := RdV.list (enc := encClip) (fun _ => rfl) (by decide) (decClip _) rd1
  exact ACall.law (g1.rel gl) (.cons vr0 (.cons vr1 (.nil _))) (FnExactShowList_ok _ k0 w1 l1 s1 n1)
set_option maxRecDepth 100000 in
theorem lifted (os : Os) (started : os.Started) (H : Type) (enc : TypeId × Value → H) :
    ReturnsInHanded {} Tryd.checked os 3 .any (fun w args => (Rows.fnExactShowListSpec.pre enc Tryd.prog Tryd.f3 Rows.fnExactShowListRow.domain false w args ∧ laidMetH Tryd.prog Rows.fnExactShowListRow.laid w) ∧ sizedMet enc Tryd.prog Tryd.f3 (OpenSpec.ofChange Rows.fnExactShowListSpec) false w args) (Rows.fnExactShowListSpec.post enc Tryd.prog Tryd.f3 false true false false) := by
  refine laid_shapedX (C := Tryd.checked) (X := fun w _ => laidMetH Tryd.prog Rows.fnExactShowListRow.laid w) (fun _ _ _ hh h => h.of_heap hh) own started (by kernel_rfl) Tryd.func3
    (ChangeSpec.witness_shaped (enc := enc) (C := Tryd.checked) (os := os) (X := fun w _ => laidMetH Tryd.prog Rows.fnExactShowListRow.laid w) false (World.laidAll Tryd.prog os Rows.fnExactShowListRow.laid) #[.agg #[.int .i64 0, .int .i64 0, .bool false], .slice none 0 0] 8 (World.laidAll_os _ _ _)
      (World.shaped_of_ZipB (by kernel_rfl) (by kernel_rfl)) (by kernel_rfl) (by kernel_rfl) (by kernel_rfl)
      (by rw [MakeChecks.laidMetH_plain _ _ _ (by kernel_rfl)]; exact laidMet_laidAll _ (by kernel_rfl) (by kernel_rfl))) ?_
  intro W base args ds gs before hval0 hW hcnd hsz0 hsh hL _
  have hval : ∀ (j : Nat) t v, Tryd.f3.params[j]? = some t → args[j]? = some v → Value.okWide Tryd.prog W .any base t v := hval0
  have hW' := hW
  obtain ⟨p, q, hA0, hV, rfl, hfz, hnd⟩ := hW
  have hA : DataW.TrodAll enc Tryd.prog W 0 (fun _ => true) true Tryd.f3.params.toList args.toList ds p := hA0
  rw [Tryd.params3] at hA hval
  obtain ⟨v0, vs0, d0, ds0, p0, q0, hargs, rfl, rfl, h0, r0⟩ := trodAll_cons hA
  obtain ⟨v1, vs1, d1, ds1, p1, q1, rfl, rfl, rfl, h1, r1⟩ := trodAll_cons r0
  obtain ⟨rfl, rfl, rfl⟩ := trodAll_nil r1
  obtain rfl : args = #[v0, v1] := by cases args; simp_all
  obtain ⟨rfl, rfl⟩ := trodVars_none hV
  have k0 := h0
  have lt0 : ∀ x ∈ p0, x.block < W.heap.size := by obtain ⟨m, hm⟩ := k0; exact DataW.trod_lt m _ _ _ hm
  have k1 := h1
  have lt1 : ∀ x ∈ p1, x.block < W.heap.size := by obtain ⟨m, hm⟩ := k1; exact DataW.trod_lt m _ _ _ hm
  have oks := hval
  clear hA0 hval0 hsz0
  refine (walk W hsh hL base v0 v1 h0 h1 (oks 0 23 v0 rfl rfl) (oks 1 24 v1 rfl rfl)).mono fun e W' ⟨he, bel⟩ => ?_
  subst he
  exact ⟨_, rfl, _, _, _, [], _, [], hW', trodAll_mk1 (shut_bool Tryd.underlying4 _), (trodAll_cons_mk (Below.trod laidOut (by kernel_rfl) (of_decide_eq_true (by kernel_rfl)) k0 bel lt0) (trodAll_cons_mk (Below.trod laidOut (by kernel_rfl) (of_decide_eq_true (by kernel_rfl)) k1 bel lt1) trodAll_mk0)), rfl, bel.frame _, fun h => by cases h⟩
theorem over : Rows.fnExactShowListRow.holds Tryd.pinned (OpenSpec.ofChange Rows.fnExactShowListSpec) :=
  OpenClaim.holds_of_wide 3 Tryd.f3 rfl rfl rfl rfl rfl rfl rfl ⟨rfl, rfl, rfl, rfl, rfl⟩ rfl rfl rfl rfl rfl (by kernel_rfl) Tryd.func3 (by kernel_rfl)
    (of_decide_eq_true (by kernel_rfl)) (by unfold Func.isWrapper; first | (rw [if_pos (by decide +kernel)]; kernel_rfl) | (rw [if_neg (by decide +kernel)]; exact ⟨rfl, rfl⟩))
    (fun os started H enc _ => lifted os started H enc)
theorem proved : Rows.FnExactShowListCardSaid :=
  Claim7.holds_tied_plain_at .later [] [.data, .data, .data] true (true, "a0f88972139d488bc11bf708b1c182deab204fbb327b29faa116348891434008") false over (fun _ h => by cases h) (by kernel_rfl) (fun _ h => by cases h) fnExactShowList_row_tie rfl ⟨rfl, rfl⟩ (by kernel_rfl) rfl
    (fun f fn hf hfn => by
      obtain rfl : f = 3 := Option.some.inj ((show Tryd.prog.funcNamed "loop.example/g00066/laws.FnExactShowList" = some 3 by kernel_rfl).symm.trans hf) |>.symm
      obtain rfl : fn = Tryd.f3 := (Option.some.inj (Tryd.func3.symm.trans hfn)).symm
      exact ⟨by kernel_rfl, fun j t ht => by
        rw [Tryd.params3] at ht
        have hm : t ∈ [23, 24] := by simpa using Array.mem_of_getElem? ht
        have hall : ([23, 24].all fun u => !Tryd.prog.wantsStandIn u) = true := by kernel_rfl
        exact (show Tryd.prog.wantsStandIn t = false by simpa using List.all_eq_true.1 hall t hm)⟩)
    (by kernel_rfl)
end Go.Proofs.YtgmimgmdbpcecaaDoor.fnExactShowList
namespace Go.Proofs.YtgmimgmdbpcecaaDoor
/-- The row, under a short name, for the claim. -/
theorem fnExactShowList_holds : Rows.FnExactShowListCardSaid := fnExactShowList.proved
end Go.Proofs.YtgmimgmdbpcecaaDoor
