import Derived.Test.YtmippcfdakjhfaaT3
import Derived.Test.YtmippcfdakjhfaaAhX
namespace Go.Proofs.Ytmippcfdakjhfaa
open Go Go.Ah
set_option linter.unusedSimpArgs false
set_option linter.unusedVariables false
/-! ### Rows of clips that come in -/
abbrev shClip : Shp := .cat (.int .i64) (.cat (.int .i64) (.cat (.int .i64) .nil))
theorem decClip0 (h : Heap) (cs : List Value) (r : Rds h shClip cs) : ∃ x : Clip, cs = encClip x ∧ True := by
  obtain ⟨_, _, rfl, ⟨a, rfl, _⟩, _, _, rfl, ⟨b, rfl, _⟩, _, _, rfl, ⟨c, rfl, _⟩, rfl⟩ := r
  exact ⟨⟨a, b, c⟩, rfl, trivial⟩
theorem decRow (h : Heap) (cs : List Value) (r : Rds h (.slc (.st shClip)) cs) : ∃ x : Value, cs = encV x ∧ ∃ ns, SlT h encClip 3 x ns ∧ ns.length ≤ 9223372036854775807 := by
  obtain ⟨v, Ls, rfl, _⟩ := id r
  obtain ⟨ns, s, hn, _⟩ := RdV.list (h := h) (w := v) (e := .st shClip) (enc := encClip) encClip_len (by decide) (fun cs r => decClip0 h cs r) r
  exact ⟨v, rfl, ns, s, hn⟩
theorem RdV_tracks {h : Heap} {w : Value} (r : RdV h (.slc (.slc (.st shClip))) w) : ∃ l, TracksAt h w l ∧ l.length ≤ 9223372036854775807 ∧ ∀ t ∈ l, t.length ≤ 9223372036854775807 := by
  obtain ⟨rs, s, hl, hq⟩ := RdV.list (e := .slc (.st shClip)) (enc := encV) encV_len (by decide) (fun cs r => decRow h cs r) r
  have key : ∀ rs : List Value, (∀ x ∈ rs, ∃ ns, SlT h encClip 3 x ns ∧ ns.length ≤ 9223372036854775807) →
      ∃ l : List (List Clip), rs.length = l.length ∧ (∀ i (h1 : i < rs.length) (h2 : i < l.length), SlT h encClip 3 rs[i] l[i]) ∧ ∀ t ∈ l, t.length ≤ 9223372036854775807 := by
    intro rs
    induction rs with
    | nil => intro _; exact ⟨[], rfl, fun i h1 => by simp at h1, fun t ht => by cases ht⟩
    | cons x rs ih =>
      intro hx
      obtain ⟨l, l1, l2, l3⟩ := ih (fun y hy => hx y (by simp [hy]))
      obtain ⟨ns, hs, hn⟩ := hx x (by simp)
      refine ⟨ns :: l, by simp [l1], fun i h1 h2 => ?_, fun t ht => ?_⟩
      · cases i with
        | zero => exact hs
        | succ i => exact l2 i (by simpa using h1) (by simpa using h2)
      · rcases List.mem_cons.mp ht with rfl | ht
        · exact hn
        · exact l3 t ht
  obtain ⟨l, l1, l2, l3⟩ := key rs hq
  exact ⟨l, ⟨rs, s, l1, l2⟩, by omega, l3⟩
theorem needsF_len (ts : List (List Clip)) (n : Int) : (needsF ts n).length ≤ 15000 := by
  unfold needsF
  split
  · rename_i h
    have h1 := toldF_len (needL n ts)
    have h2 := needL_len n ts h.2.2
    have := h.1
    omega
  · simp
theorem row_len {ts : List (List Clip)} (h : totK ts ≤ 1048576) : ∀ t ∈ ts, t.length ≤ 1100000 := by
  intro t ht
  obtain ⟨i, hi, rfl⟩ := List.getElem_of_mem ht
  have := totK_get ts i hi
  omega
end Go.Proofs.Ytmippcfdakjhfaa
