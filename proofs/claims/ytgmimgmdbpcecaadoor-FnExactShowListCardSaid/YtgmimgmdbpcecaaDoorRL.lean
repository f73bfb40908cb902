import Derived.Test.YtgmimgmdbpcecaaDoorR1
import Derived.Test.YtgmimgmdbpcecaaDoorRows
import Derived.Lib.LaidTab
import Derived.MakeChecks
import Derived.LaidMore
/-! What the row lays is what the logic asks of the world. -/
namespace Go.Proofs.YtgmimgmdbpcecaaDoor
open Go Go.Ah
set_option linter.unusedVariables false
theorem gl_of {W : World} (h : laidMetH Tryd.prog Rows.fnExactShowListRow.laid W) : Gl W := by
  rw [MakeChecks.laidMetH_plain _ _ _ (by kernel_rfl)] at h
  obtain ⟨ps, ⟨g0, t0, cs0, f0, p0, q0, hg0, ht0, hv0, hd0, ⟨g1, t1, cs1, f1, p1, q1, hg1, ht1, hv1, hd1, ⟨g2, t2, cs2, f2, p2, q2, hg2, ht2, hv2, hd2, _, _⟩, _⟩, _⟩, _, _⟩ := h
  obtain rfl := Option.some.inj ((show Tryd.prog.globalNamed "internal/strconv.uint64pow10" = some 0 by kernel_rfl).symm.trans hg2)
  obtain rfl := Option.some.inj ((show (Tryd.prog.globals[0]?).map (·.type) = some 93 by kernel_rfl).symm.trans ht2)
  have hc := Go.Lib.cells_of_tab (k := .u64) (zs := [1, 10, 100, 1000, 10000, 100000, 1000000, 10000000, 100000000, 1000000000, 10000000000, 100000000000, 1000000000000, 10000000000000, 100000000000000, 1000000000000000, 10000000000000000, 100000000000000000, 1000000000000000000, 10000000000000000000])
    Tryd.underlying93 Tryd.underlying78 (by kernel_rfl) (by kernel_rfl) hd2
  have ea : cs2 = (([1, 10, 100, 1000, 10000, 100000, 1000000, 10000000, 100000000, 1000000000, 10000000000, 100000000000, 1000000000000, 10000000000000, 100000000000000, 1000000000000000, 10000000000000000, 100000000000000000, 1000000000000000000, 10000000000000000000] : List Int).map fun z => Value.int .u64 z).toArray := by rw [← hc]
  unfold World.var? at hv2
  rw [hg2, Option.bind_some] at hv2
  refine ⟨?_, trivial⟩
  cases hq : W.heap[0]? with
  | none => rw [hq] at hv2; cases hv2
  | some o =>
    rw [hq] at hv2
    cases o with
    | cells cs t f => cases hv2; exact ⟨t, f, by rw [← ea]⟩
    | _ => cases hv2
end Go.Proofs.YtgmimgmdbpcecaaDoor
