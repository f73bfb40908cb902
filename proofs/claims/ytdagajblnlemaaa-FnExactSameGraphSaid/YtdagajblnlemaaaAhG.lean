import Derived.Test.YtdagajblnlemaaaAhF
set_option linter.unusedVariables false
set_option linter.unusedSimpArgs false
namespace Go.Ah
open Go Go.RowKit

section
variable {P : Program} {W0 : World} {m : Map} {h : Heap} {w : World} {N : Nat} {E : Env} {a : Act}

/-- A value told by a run that leaves the world. -/
def Tells (P : Program) (m : Map) (w : World) (s : Sem Next) (v : Value) : Prop := ∃ v' w', s.run P w = .ok (.value v') w' ∧ SameW w w' ∧ VR m v v'
theorem Tells.of {s : Sem Value} {v v' : Value} (h : s.run P w = .ok v' w) (r : VR m v v') : Tells P m w (do pure (.value (← s))) v :=
  ⟨v', w, by simp only [Sem.run_bind, h, Result.andThen_ok, Sem.run_pure], .refl w, r⟩
theorem Tells.of' {s : Sem Value} {v : Value} (h : ∃ v', s.run P w = .ok v' w ∧ VR m v v') : Tells P m w (do pure (.value (← s))) v :=
  let ⟨_, e, r⟩ := h; .of e r
theorem Tells.pure {v v' : Value} (r : VR m v v') : Tells P m w (Pure.pure (.value v')) v := ⟨v', w, rfl, .refl w, r⟩

theorem q_sound {op : Op} {q : QOp} (hs : slimQ P op = some q) (r : Rel W0 m h w) (e : ER N m E a.tmps) {v : Value} (hv : q.ev E h = some v) (o : Oper) (ho : o.op = op) :
    Tells P m w (execOp a.eval o) v := by
  have S := @slimOpd_sound
  cases op with
  | move x =>
    simp only [slimQ, Option.map_eq_some_iff] at hs; obtain ⟨y, hy, rfl⟩ := hs
    simp only [execOp, ho]; exact .pure (slimOpd_sound hy e hv)
  | assign x =>
    simp only [slimQ, Option.map_eq_some_iff] at hs; obtain ⟨y, hy, rfl⟩ := hs
    simp only [execOp, ho]; exact .pure (slimOpd_sound hy e hv)
  | pick c x y =>
    simp only [slimQ] at hs
    obtain ⟨c', hc, hs⟩ := bind_some hs; obtain ⟨x', hx, hs⟩ := bind_some hs; obtain ⟨y', hy, hs⟩ := bind_some hs; cases hs
    simp only [QOp.ev] at hv
    split at hv
    · rename_i hcv
      have := slimOpd_sound hc e hcv
      simp only [execOp, ho]
      cases hq : a.eval c <;> rw [hq] at this <;> cases this
      exact ⟨_, w, rfl, .refl w, slimOpd_sound hx e hv⟩
    · rename_i hcv
      have := slimOpd_sound hc e hcv
      simp only [execOp, ho]
      cases hq : a.eval c <;> rw [hq] at this <;> cases this
      exact ⟨_, w, rfl, .refl w, slimOpd_sound hy e hv⟩
    · cases hv
  | build t parts =>
    simp only [slimQ] at hs
    obtain ⟨d, hd, hs⟩ := bind_some hs; obtain ⟨z, hz, hs⟩ := bind_some hs
    split at hs
    · rename_i hcl
      split at hs
      · rename_i fields
        obtain ⟨ps, hps, hs⟩ := bind_some hs; obtain ⟨l, hl, hs⟩ := bind_some hs; cases hs
        simp only [QOp.ev] at hv
        obtain ⟨vs, hvs, hv⟩ := bind_some hv
        simp only [Option.map_eq_some_iff] at hv; obtain ⟨out, hout, rfl⟩ := hv
        simp only [execOp, ho]
        obtain ⟨out', e1, r1⟩ := run_build_struct (w := w) e hd hz hcl hps hl hvs hout
        exact .of e1 r1.to_agg
      · rename_i len el
        obtain ⟨n, hn, hs⟩ := bind_some hs; obtain ⟨l, hl, hs⟩ := bind_some hs; cases hs
        simp only [QOp.ev] at hv
        obtain ⟨vs, hvs, hv⟩ := bind_some hv
        simp only [Option.map_eq_some_iff] at hv; obtain ⟨out, hout, rfl⟩ := hv
        simp only [execOp, ho]
        obtain ⟨out', e1, r1⟩ := run_build_array (w := w) e hd hz hcl hn hl hvs hout
        exact .of e1 r1.to_agg
      · cases hs
    · cases hs
  | load t x =>
    simp only [slimQ] at hs
    obtain ⟨d, hd, hs⟩ := bind_some hs; obtain ⟨x', hx, hs⟩ := bind_some hs
    split at hs
    · rename_i ha
      obtain ⟨n, hn, hs⟩ := bind_some hs; cases hs
      simp only [QOp.ev] at hv
      obtain ⟨u, hu, hv⟩ := bind_some hv
      simp only [execOp, ho]
      exact .of' (run_ldn r hd ha hn (slimOpd_sound hx e hu) hv)
    · rename_i ha
      cases hs
      simp only [QOp.ev] at hv
      obtain ⟨u, hu, hv⟩ := bind_some hv
      simp only [execOp, ho]
      exact .of' (run_ld r hd (by simpa using ha) (slimOpd_sound hx e hu) hv)
  | nilCheck x =>
    simp only [slimQ, Option.map_eq_some_iff] at hs; obtain ⟨y, hy, rfl⟩ := hs
    simp only [QOp.ev] at hv
    obtain ⟨u, hu, hv⟩ := bind_some hv
    have rv := slimOpd_sound hy e hu
    simp only [execOp, ho]
    unfold nilV at hv
    split at hv
    · cases hv
      generalize a.eval x = z at rv
      cases rv with
      | ptr i o' b base S hm => exact .pure (.ptr i o' b base S hm)
    · cases hv
      generalize a.eval x = z at rv
      cases rv with
      | func fn f f' c c' h1 h2 h3 h4 => exact .pure (.func _ _ _ _ _ h1 h2 h3 h4)
    · cases hv
  | binOp bop t x y yt =>
    simp only [slimQ] at hs
    obtain ⟨x', hx, hs⟩ := bind_some hs; obtain ⟨y', hy, hs⟩ := bind_some hs
    simp only [execOp, ho]
    split at hs
    · cases hs
      simp only [QOp.ev] at hv
      obtain ⟨u, hu, hv⟩ := bind_some hv; obtain ⟨u2, hu2, hv⟩ := bind_some hv
      exact .of' (run_binV (slimOpd_sound hx e hu) (slimOpd_sound hy e hu2) hv)
    · cases hs
      simp only [QOp.ev] at hv
      obtain ⟨u, hu, hv⟩ := bind_some hv; obtain ⟨u2, hu2, hv⟩ := bind_some hv
      exact .of' (run_binV (slimOpd_sound hx e hu) (slimOpd_sound hy e hu2) hv)
    · cases hs
      simp only [QOp.ev] at hv
      obtain ⟨u, hu, hv⟩ := bind_some hv; obtain ⟨u2, hu2, hv⟩ := bind_some hv
      exact .of' (run_binV (slimOpd_sound hx e hu) (slimOpd_sound hy e hu2) hv)
    · rename_i hb
      obtain ⟨ng, hng, hs⟩ := bind_some hs; cases hs
      simp only [QOp.ev] at hv
      obtain ⟨u, hu, hv⟩ := bind_some hv; obtain ⟨u2, hu2, hv⟩ := bind_some hv
      have ⟨k1, k2⟩ := eqbV_sound (w := w) hb (slimOpd_sound hx e hu) (slimOpd_sound hy e hu2) hv x y
      rw [← eqNeg_op hng] at k1
      exact .of k1 k2
    · rename_i el hb
      obtain ⟨ng, hng, hs⟩ := bind_some hs; cases hs
      simp only [QOp.ev] at hv
      obtain ⟨u, hu, hv⟩ := bind_some hv; obtain ⟨u2, hu2, hv⟩ := bind_some hv
      have ⟨k1, k2⟩ := eqsV_sound (w := w) hb (slimOpd_sound hx e hu) (slimOpd_sound hy e hu2) hv x y
      rw [← eqNeg_op hng] at k1
      exact .of k1 k2
    · rename_i fs hb
      split at hs
      · rename_i hc
        obtain ⟨ng, hng, hs⟩ := bind_some hs; cases hs
        simp only [QOp.ev] at hv
        obtain ⟨u, hu, hv⟩ := bind_some hv; obtain ⟨u2, hu2, hv⟩ := bind_some hv
        have ⟨k1, k2⟩ := eqiV_sound (w := w) hb hc (slimOpd_sound hx e hu) (slimOpd_sound hy e hu2) hv x y
        rw [← eqNeg_op hng] at k1
        exact .of k1 k2
      · cases hs
    · cases hs
  | unOp uop t x =>
    simp only [slimQ] at hs
    obtain ⟨x', hx, hs⟩ := bind_some hs
    simp only [execOp, ho]
    split at hs
    · cases hs
      simp only [QOp.ev] at hv
      obtain ⟨u, hu, hv⟩ := bind_some hv
      have rv := slimOpd_sound hx e hu
      unfold notV at hv; split at hv
      · cases hv
        generalize a.eval x = z at rv
        cases rv
        exact .of rfl (.bool _)
      · cases hv
    · split at hs
      · cases hs
        simp only [QOp.ev] at hv
        obtain ⟨u, hu, hv⟩ := bind_some hv
        have rv := slimOpd_sound hx e hu
        unfold negV at hv; split at hv
        · cases hv
          generalize a.eval x = z at rv
          cases rv
          exact .of rfl (.int _ _)
        · cases hv
      · cases hs
    · cases hs
  | convert s d x =>
    simp only [slimQ] at hs
    obtain ⟨sd, hsd, hs⟩ := bind_some hs; obtain ⟨dd, hdd, hs⟩ := bind_some hs; obtain ⟨x', hx, hs⟩ := bind_some hs
    simp only [execOp, ho]
    split at hs
    · cases hs
      simp only [QOp.ev] at hv
      obtain ⟨u, hu, hv⟩ := bind_some hv
      have rv := slimOpd_sound hx e hu
      unfold cviV at hv; split at hv
      · cases hv
        generalize a.eval x = z at rv
        cases rv
        exact .of (by simp only [convert, Sem.run_bind, run_underlying P w hsd, run_underlying P w hdd, Result.andThen_ok, Conv.intToInt, Sem.run_pure]) (.int _ _)
      · cases hv
    · cases hs
      simp only [QOp.ev] at hv
      obtain ⟨u, hu, hv⟩ := bind_some hv
      have rv := slimOpd_sound hx e hu
      unfold cvfV at hv; split at hv
      · cases hv
        generalize a.eval x = z at rv
        cases rv
        exact .of (by simp only [convert, Sem.run_bind, run_underlying P w hsd, run_underlying P w hdd, Result.andThen_ok, Conv.intToFloat, Sem.run_pure]) (.float _ _ _ (.inl rfl))
      · cases hv
    · rename_i e0
      obtain ⟨ed, hed, hs⟩ := bind_some hs
      split at hs
      · cases hs
        simp only [QOp.ev] at hv
        obtain ⟨u, hu, hv⟩ := bind_some hv
        have rv := slimOpd_sound hx e hu
        exact .of' (run_cbs r hsd hed hdd rv hv)
      · cases hs
    · cases hs
  | slice t x lo hi mx =>
    cases mx with
    | some mx => simp [slimQ] at hs
    | none =>
      simp only [slimQ] at hs
      obtain ⟨d, hd, hs⟩ := bind_some hs; obtain ⟨x', hx, hs⟩ := bind_some hs; obtain ⟨lo', hlo, hs⟩ := bind_some hs; obtain ⟨hi', hhi, hs⟩ := bind_some hs
      simp only [execOp, ho]
      split at hs
      · rename_i el
        obtain ⟨n, hn, hs⟩ := bind_some hs; cases hs
        simp only [QOp.ev] at hv
        obtain ⟨u, hu, hv⟩ := bind_some hv; obtain ⟨l, hl, hv⟩ := bind_some hv; obtain ⟨k, hk, hv⟩ := bind_some hv
        exact .of' (run_slc hd hn (slimOpd_sound hx e hu) (optd_sound hlo e hl) (optd_sound hhi e hk) hv)
      · cases hs
        simp only [QOp.ev] at hv
        obtain ⟨u, hu, hv⟩ := bind_some hv; obtain ⟨l, hl, hv⟩ := bind_some hv; obtain ⟨k, hk, hv⟩ := bind_some hv
        exact .of' (run_sls hd (slimOpd_sound hx e hu) (optd_sound hlo e hl) (optd_sound hhi e hk) hv)
      · cases hs
  | fieldAddr s x f =>
    simp only [slimQ] at hs
    simp only [execOp, ho]
    split at hs
    · rename_i fields hu
      obtain ⟨fd, hfd, hs⟩ := bind_some hs; obtain ⟨n, hn, hs⟩ := bind_some hs
      split at hs
      · cases hs
      · rename_i hn0
        simp only [Option.map_eq_some_iff] at hs; obtain ⟨x', hx, rfl⟩ := hs
        simp only [QOp.ev] at hv
        obtain ⟨u, hu2, hv⟩ := bind_some hv
        exact .of' (run_fa hu hfd hn hn0 (slimOpd_sound hx e hu2) hv)
    · cases hs
  | indexAddr t x i =>
    simp only [slimQ] at hs
    obtain ⟨x', hx, hs⟩ := bind_some hs; obtain ⟨i', hi, hs⟩ := bind_some hs
    simp only [execOp, ho]
    split at hs
    · rename_i el hu
      obtain ⟨n, hn, hs⟩ := bind_some hs; cases hs
      simp only [QOp.ev] at hv
      obtain ⟨u, hu1, hv⟩ := bind_some hv; obtain ⟨u2, hu2, hv⟩ := bind_some hv
      exact .of' (run_ia hu hn (slimOpd_sound hx e hu1) (slimOpd_sound hi e hu2) hv)
    · rename_i len el hu
      obtain ⟨n, hn, hs⟩ := bind_some hs; cases hs
      simp only [QOp.ev] at hv
      obtain ⟨u, hu1, hv⟩ := bind_some hv; obtain ⟨u2, hu2, hv⟩ := bind_some hv
      exact .of' (run_iaa hu hn (slimOpd_sound hx e hu1) (slimOpd_sound hi e hu2) hv)
    · cases hs
  | index t x i =>
    simp only [slimQ] at hs
    obtain ⟨x', hx, hs⟩ := bind_some hs; obtain ⟨i', hi, hs⟩ := bind_some hs
    simp only [execOp, ho]
    split at hs
    · rename_i hu
      cases hs
      simp only [QOp.ev] at hv
      obtain ⟨u, hu1, hv⟩ := bind_some hv; obtain ⟨u2, hu2, hv⟩ := bind_some hv
      have ⟨k1, k2⟩ := run_ivs (w := w) hu (slimOpd_sound hx e hu1) (slimOpd_sound hi e hu2) hv
      exact .of k1 k2
    · rename_i len el hu
      obtain ⟨d, hd, hs⟩ := bind_some hs
      obtain ⟨n, hn, hs⟩ := bind_some hs
      split at hs
      · cases hs
      · rename_i hc
        simp only [Bool.or_eq_true, bne_iff_ne, ne_eq, not_or, Bool.not_eq_true, Classical.not_not] at hc
        obtain ⟨hc1, rfl⟩ := hc
        cases hs
        simp only [QOp.ev] at hv
        obtain ⟨u, hu1, hv⟩ := bind_some hv; obtain ⟨u2, hu2, hv⟩ := bind_some hv
        obtain ⟨v', k1, k2⟩ := run_iva (w := w) hu hd hn hc1 (slimOpd_sound hx e hu1) (slimOpd_sound hi e hu2) hv
        exact .of k1 k2
    · cases hs
  | extract x i =>
    simp only [slimQ, Option.map_eq_some_iff] at hs; obtain ⟨y, hy, rfl⟩ := hs
    simp only [QOp.ev] at hv
    obtain ⟨u, hu, hv⟩ := bind_some hv
    have rv := slimOpd_sound hy e hu
    simp only [execOp, ho]
    unfold extV at hv
    split at hv
    · generalize a.eval x = z at rv
      cases rv with
      | tuple b b' hsz hcs =>
        obtain ⟨hi, hq⟩ := Array.getElem?_eq_some_iff.mp hv
        have hi' : i < b'.size := by omega
        refine .of (v' := b'[i]) ?_ (hq ▸ hcs i hi hi')
        simp only [Instr.extract, Array.getElem?_eq_getElem hi', Sem.run_pure]
    · cases hv
  | makeFunc fn first captured =>
    simp only [slimQ] at hs
    simp only [execOp, ho]
    cases fn with
    | func f =>
      simp only at hs
      split at hs
      · rename_i hf
        simp only [Option.map_eq_some_iff] at hs; obtain ⟨l, hl, rfl⟩ := hs
        simp only [QOp.ev, Option.map_eq_some_iff] at hv
        obtain ⟨vs, hvs, rfl⟩ := hv
        have rv := slimOpds_sound e captured.toList hl hvs
        have hf0 : first = #[] := Array.eq_empty_of_size_eq_zero hf
        subst hf0
        refine .of rfl (.func _ _ _ _ _ (by simp) (by simpa using rv.1) (fun i hi => by simp at hi) fun i hi hi' => ?_)
        simp at hi hi'
        obtain ⟨v', e1, r1⟩ := rv.2 i vs[i] (by simp [hi])
        obtain ⟨_, rfl⟩ := List.getElem?_eq_some_iff.mp e1
        simpa using r1
      · cases hs
    | _ => simp at hs
  | call c =>
    obtain ⟨callee, args, argTypes⟩ := c
    cases callee with
    | builtin bi =>
      cases bi with
      | len =>
        simp only [slimQ] at hs
        split at hs
        · rename_i x t hargs htys
          obtain ⟨x', hx, hs⟩ := bind_some hs
          have ha : args = #[x] := by rw [← Array.toArray_toList (xs := args), hargs]
          have ht : argTypes = #[t] := by rw [← Array.toArray_toList (xs := argTypes), htys]
          subst ha; subst ht
          simp only [execOp, ho]
          split at hs
          · rename_i el hu
            cases hs
            simp only [QOp.ev] at hv
            obtain ⟨u, hu1, hv⟩ := bind_some hv
            have rv := slimOpd_sound hx e hu1
            unfold lenV at hv; split at hv
            · cases hv
              generalize hz : a.eval x = z at rv
              cases rv with
              | snone => exact ⟨_, w, by simp [resolve, invoke, builtin, Builtin.len_, hz, run_underlying P w hu, goInt], .refl w, .int _ _⟩
              | slice i o' _ _ b base S a' cap hm hc hroom => exact ⟨_, w, by simp [resolve, invoke, builtin, Builtin.len_, hz, run_underlying P w hu, goInt], .refl w, .int _ _⟩
              | sempty _ q => exact ⟨_, w, by simp [resolve, invoke, builtin, Builtin.len_, hz, run_underlying P w hu, goInt], .refl w, .int _ _⟩
            · cases hv
          · rename_i hu
            cases hs
            simp only [QOp.ev] at hv
            obtain ⟨u, hu1, hv⟩ := bind_some hv
            have rv := slimOpd_sound hx e hu1
            unfold lensV at hv; split at hv
            · cases hv
              generalize hz : a.eval x = z at rv
              cases rv
              exact ⟨_, w, by simp [resolve, invoke, builtin, Builtin.len_, hz, run_underlying P w hu, goInt], .refl w, .int _ _⟩
            · cases hv
          · cases hs
        · cases hs
      | cap =>
        simp only [slimQ] at hs
        split at hs
        · rename_i x t hargs htys
          obtain ⟨x', hx, hs⟩ := bind_some hs
          have ha : args = #[x] := by rw [← Array.toArray_toList (xs := args), hargs]
          have ht : argTypes = #[t] := by rw [← Array.toArray_toList (xs := argTypes), htys]
          subst ha; subst ht
          simp only [execOp, ho]
          split at hs
          · rename_i el hu
            cases hs
            simp only [QOp.ev] at hv
            obtain ⟨u, hu1, hv⟩ := bind_some hv
            have rv := slimOpd_sound hx e hu1
            unfold capV at hv; split at hv
            · cases hv
              generalize hz : a.eval x = z at rv
              cases rv with
              | snone => exact ⟨_, w, by simp [resolve, invoke, builtin, Builtin.cap_, hz, run_underlying P w hu, goInt], .refl w, .int _ _⟩
            · cases hv
          · cases hs
        · cases hs
      | max =>
        simp only [slimQ] at hs
        split at hs
        · rename_i x y hargs
          obtain ⟨x', hx, hs⟩ := bind_some hs; obtain ⟨y', hy, hs⟩ := bind_some hs; cases hs
          have ha : args = #[x, y] := by rw [← Array.toArray_toList (xs := args), hargs]
          subst ha
          simp only [execOp, ho]
          simp only [QOp.ev] at hv
          obtain ⟨u, hu1, hv⟩ := bind_some hv; obtain ⟨u2, hu2, hv⟩ := bind_some hv
          have r1 := slimOpd_sound hx e hu1
          have r2 := slimOpd_sound hy e hu2
          unfold mxV at hv; split at hv
          · cases hv
            generalize hz : a.eval x = z at r1; generalize hz2 : a.eval y = z2 at r2
            cases r1; cases r2
            exact ⟨_, w, by simp [resolve, invoke, builtin, Builtin.max_, Builtin.max2, hz, hz2], .refl w, .int _ _⟩
          · cases hv
        · cases hs
      | min =>
        simp only [slimQ] at hs
        split at hs
        · rename_i x y hargs
          obtain ⟨x', hx, hs⟩ := bind_some hs; obtain ⟨y', hy, hs⟩ := bind_some hs; cases hs
          have ha : args = #[x, y] := by rw [← Array.toArray_toList (xs := args), hargs]
          subst ha
          simp only [execOp, ho]
          simp only [QOp.ev] at hv
          obtain ⟨u, hu1, hv⟩ := bind_some hv; obtain ⟨u2, hu2, hv⟩ := bind_some hv
          have r1 := slimOpd_sound hx e hu1
          have r2 := slimOpd_sound hy e hu2
          unfold mnV at hv; split at hv
          · cases hv
            generalize hz : a.eval x = z at r1; generalize hz2 : a.eval y = z2 at r2
            cases r1; cases r2
            exact ⟨_, w, by simp [resolve, invoke, builtin, Builtin.min_, Builtin.min2, hz, hz2], .refl w, .int _ _⟩
          · cases hv
        · cases hs
      | _ => simp [slimQ] at hs
    | value f => simp [slimQ] at hs
    | invoke rc me => simp [slimQ] at hs
  | _ => simp [slimQ] at hs
end
end Go.Ah
