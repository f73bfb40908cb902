import Derived.Test.YtbnkpligdcponaaN1
import Derived.Test.YtbnkpligdcponaaAhX
namespace Go.Proofs.Ytbnkpligdcponaa
open Go Go.Ah
set_option linter.unusedSimpArgs false
set_option linter.unusedVariables false
/-! ### A job that comes in -/
theorem decI (h : Heap) (cs : List Value) (r : Rds h (.int .i64) cs) : ∃ x : Int, cs = encI x ∧ True := by
  obtain ⟨a, rfl, b⟩ := r
  exact ⟨a, rfl, trivial⟩
abbrev shTask : Shp := .cat (.int .i64) (.cat (.int .i64) (.cat (.slc (.int .i64)) (.cat (.int .i64) .nil)))
theorem decTask (h : Heap) (cs : List Value) (r : Rds h shTask cs) : ∃ x : TaskR, cs = encT x ∧ ∃ ns, SlT h encI 1 x.nv ns ∧ ns.length ≤ 9223372036854775807 := by
  obtain ⟨_, _, rfl, ⟨a, rfl, _⟩, _, _, rfl, ⟨b, rfl, _⟩, _, _, rfl, r2, _, _, rfl, ⟨d, rfl, _⟩, rfl⟩ := r
  obtain ⟨v, Ls, rfl, _⟩ := id r2
  obtain ⟨ns, s, hn, _⟩ := RdV.list (h := h) (w := v) (e := .int .i64) (enc := encI) encI_len (by decide) (decI h) r2
  exact ⟨⟨a, b, v, d⟩, rfl, ns, s, hn⟩
theorem RdV_job {h : Heap} {w : Value} (r : RdV h (.slc (.st shTask)) w) : ∃ l, JobAt h w l ∧ l.length ≤ 9223372036854775807 ∧ ∀ t ∈ l, t.needs.length ≤ 9223372036854775807 := by
  obtain ⟨rs, s, hl, hq⟩ := RdV.list (e := .st shTask) (enc := encT) encT_len (by decide) (fun cs r => decTask h cs r) r
  have key : ∀ rs : List TaskR, (∀ x ∈ rs, ∃ ns, SlT h encI 1 x.nv ns ∧ ns.length ≤ 9223372036854775807) →
      ∃ l : List Task, rs.length = l.length ∧ (∀ i (h1 : i < rs.length) (h2 : i < l.length), TaskAt h rs[i] l[i]) ∧ ∀ t ∈ l, t.needs.length ≤ 9223372036854775807 := by
    intro rs
    induction rs with
    | nil => intro _; exact ⟨[], rfl, fun i h1 => by simp at h1, fun t ht => by cases ht⟩
    | cons x rs ih =>
      intro hx
      obtain ⟨l, l1, l2, l3⟩ := ih (fun y hy => hx y (by simp [hy]))
      obtain ⟨ns, hs, hn⟩ := hx x (by simp)
      refine ⟨⟨x.kind, x.value, ns, x.cost⟩ :: l, by simp [l1], fun i h1 h2 => ?_, fun t ht => ?_⟩
      · cases i with
        | zero => exact ⟨rfl, rfl, rfl, hs⟩
        | succ i => exact l2 i (by simpa using h1) (by simpa using h2)
      · rcases List.mem_cons.mp ht with rfl | ht
        · exact hn
        · exact l3 t ht
  obtain ⟨l, l1, l2, l3⟩ := key rs hq
  exact ⟨l, ⟨rs, s, l1, l2⟩, by omega, l3⟩
end Go.Proofs.Ytbnkpligdcponaa
