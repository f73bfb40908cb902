import Derived.Test.YtmhbmbhdeofbaaaE7
import Derived.Test.YtmhbmbhdeofbaaaM0
namespace Go.Proofs.Ytmhbmbhdeofbaaa
open Go Go.Ah
set_option linter.unusedSimpArgs false
set_option linter.unusedVariables false
set_option maxRecDepth 10000
set_option maxHeartbeats 4000000
theorem Cur.stepG {h h' : Heap} {c g : Nat} (k : Cur h c) (e : ExtG g h h') (hg : c < g) : Cur h' c := by
  obtain ⟨h0, bv, code, pos, hh, k1, k2, k3, k4, k5, k6⟩ := k
  exact ⟨h0, bv, code, pos, hh, k1, e.ext k2 (by omega), k3, k4, k5, k6.step e (by omega)⟩
theorem toX1 {c : Nat} {h h' : Heap} (e : ExtG c h h') : ExtX [c] h h' := e.toX (by simp)
theorem l9DrawValue_ok (h : Heap) (c : Nat) (k : Cur h c) : ACall Try.prog 53 [.pointer (some ⟨c, 0, none⟩)] h
    fun r h' => ∃ x, r = .int .i64 x ∧ (0 ≤ x ∧ x ≤ 65535) ∧ ExtG c h h' ∧ Cur h' c := by
  refine ACall.of Try.func53 s53 (of_decide_eq_true rfl) ?_
  simp (maxSteps := 4000000) (disch := omega) only [ah, am, Nat.reduceEqDiff, reduceCtorEq, Nat.reduceAdd, Nat.reduceLeDiff, Nat.reduceMul, Nat.reduceLT, if_true, if_false, true_and, and_true, and_self, Nat.reduceBEq, QOp.loads, boxO, bslO, buildO, cutL, fillV, putL, w53, v53]
  refine stepC.of (l1Once_ok _ _ _ k) ?_
  rintro _ H1 ⟨b, rfl, g1, k1⟩
  cases b with
  | true =>
    simp (maxSteps := 4000000) (disch := omega) only [ah, am, Nat.reduceEqDiff, reduceCtorEq, Nat.reduceAdd, Nat.reduceLeDiff, Nat.reduceMul, Nat.reduceLT, if_true, if_false, true_and, and_true, and_self, Nat.reduceBEq, QOp.loads, boxO, bslO, buildO, cutL, fillV, putL, w53, v53]
    have e := Ext.more H1 [[.int .i64 0, .int .i64 65535, .int .i64 32767, .int .i64 32768, .int .i64 16384, .int .i64 1]]
    have B : Bx (H1.more [[.int .i64 0, .int .i64 65535, .int .i64 32767, .int .i64 32768, .int .i64 16384, .int .i64 1]]) H1.size [.int .i64 0, .int .i64 65535, .int .i64 32767, .int .i64 32768, .int .i64 16384, .int .i64 1] := Bx.new _ _ _
    refine stepC.of (l1Below_ok _ _ _ (k1.ext e)) ?_
    rintro _ H2 ⟨x, rfl, x0, x1, _, g2, k2⟩
    have x1 := x1 (by omega)
    have hlt := k1.lt
    have B := B.step g2 (by omega)
    obtain ⟨y, hy, hb⟩ : ∃ y : Int, ldV H2 (.pointer (some ⟨H1.size, x.toNat, none⟩)) = some (.int .i64 y) ∧ 0 ≤ y ∧ y ≤ 65535 := by
      have h6 : x = 0 ∨ x = 1 ∨ x = 2 ∨ x = 3 ∨ x = 4 ∨ x = 5 := by omega
      rcases h6 with rfl | rfl | rfl | rfl | rfl | rfl <;> exact ⟨_, by rw [B.ld.1]; rfl, by omega, by omega⟩
    simp (maxSteps := 4000000) (disch := omega) only [ah, am, Nat.reduceEqDiff, reduceCtorEq, Nat.reduceAdd, Nat.reduceLeDiff, Nat.reduceMul, Nat.reduceLT, if_true, if_false, true_and, and_true, and_self, Nat.reduceBEq, QOp.loads, boxO, bslO, buildO, cutL, fillV, putL, w53, v53, hy, Nat.mul_one]
    exact ⟨_, rfl, hb, g1.trans (e.toG.trans g2), k2⟩
  | false =>
    simp (maxSteps := 4000000) (disch := omega) only [ah, am, Nat.reduceEqDiff, reduceCtorEq, Nat.reduceAdd, Nat.reduceLeDiff, Nat.reduceMul, Nat.reduceLT, if_true, if_false, true_and, and_true, and_self, Nat.reduceBEq, QOp.loads, boxO, bslO, buildO, cutL, fillV, putL, w53, v53]
    refine stepC.of (l1Below_ok _ _ _ k1) ?_
    rintro _ H2 ⟨x, rfl, x0, x1, _, g2, k2⟩
    simp (maxSteps := 4000000) (disch := omega) only [ah, am, Nat.reduceEqDiff, reduceCtorEq, Nat.reduceAdd, Nat.reduceLeDiff, Nat.reduceMul, Nat.reduceLT, if_true, if_false, true_and, and_true, and_self, Nat.reduceBEq, QOp.loads, boxO, bslO, buildO, cutL, fillV, putL, w53, v53]
    exact ⟨_, rfl, ⟨x0, by have := x1 (by omega); omega⟩, g1.trans g2, k2⟩
theorem l9DrawRgb_ok (h : Heap) (c : Nat) (k : Cur h c) : ACall Try.prog 39 [.pointer (some ⟨c, 0, none⟩)] h
    fun r h' => ∃ z : Rgb, r = .agg (encRgb z).toArray ∧ (0 ≤ z.g ∧ z.g ≤ 65535) ∧ (0 ≤ z.b ∧ z.b ≤ 65535) ∧ (-9223372036854775808 ≤ z.r ∧ z.r ≤ 9223372036854775807) ∧ ExtX [c] h h' ∧ Cur h' c := by
  have hc := k.lt
  refine ACall.of Try.func39 s39 (of_decide_eq_true rfl) ?_
  simp (maxSteps := 4000000) (disch := omega) only [ah, am, Nat.reduceEqDiff, reduceCtorEq, Nat.reduceAdd, Nat.reduceLeDiff, Nat.reduceMul, Nat.reduceLT, if_true, if_false, true_and, and_true, and_self, Nat.reduceBEq, QOp.loads, boxO, bslO, buildO, cutL, fillV, putL, w39, v39]
  have e0 := Ext.more h [[.int .i64 0, .int .i64 0, .int .i64 0]]
  have B2 : Bx (h.more [[.int .i64 0, .int .i64 0, .int .i64 0]]) h.size [.int .i64 0, .int .i64 0, .int .i64 0] := Bx.new _ _ _
  refine stepC.of (l9DrawValue_ok _ _ (k.ext e0)) ?_
  rintro _ H1 ⟨x1, rfl, b1, g1, k⟩
  simp (maxSteps := 4000000) (disch := omega) only [ah, am, Nat.reduceEqDiff, reduceCtorEq, Nat.reduceAdd, Nat.reduceLeDiff, Nat.reduceMul, Nat.reduceLT, if_true, if_false, true_and, and_true, and_self, Nat.reduceBEq, QOp.loads, boxO, bslO, buildO, cutL, fillV, putL, w39, v39]
  refine stepC.of (l9DrawValue_ok _ _ k) ?_
  rintro _ H2 ⟨x2, rfl, b2, g2, k⟩
  simp (maxSteps := 4000000) (disch := omega) only [ah, am, Nat.reduceEqDiff, reduceCtorEq, Nat.reduceAdd, Nat.reduceLeDiff, Nat.reduceMul, Nat.reduceLT, if_true, if_false, true_and, and_true, and_self, Nat.reduceBEq, QOp.loads, boxO, bslO, buildO, cutL, fillV, putL, w39, v39]
  refine stepC.of (l9DrawValue_ok _ _ k) ?_
  rintro _ H3 ⟨x3, rfl, b3, g3, k⟩
  have B2 := B2.step (g1.trans (g2.trans g3)) (by omega)
  have X : ExtX [c] h H3 := e0.toX.trans (toX1 (g1.trans (g2.trans g3)))
  simp (maxSteps := 4000000) (disch := omega) only [ah, am, Nat.reduceEqDiff, reduceCtorEq, Nat.reduceAdd, Nat.reduceLeDiff, Nat.reduceMul, Nat.reduceLT, if_true, if_false, true_and, and_true, and_self, Nat.reduceBEq, QOp.loads, boxO, bslO, buildO, cutL, fillV, putL, w39, v39]
  have eM := Ext.more H3 [[.int .i64 x1, .int .i64 x2, .int .i64 x3]]
  have Bz : Bx (H3.more [[.int .i64 x1, .int .i64 x2, .int .i64 x3]]) H3.size [.int .i64 x1, .int .i64 x2, .int .i64 x3] := Bx.new _ _ _
  have hq := Heap.get_lt B2
  obtain ⟨q, hqe⟩ : ∃ q, q = H3.size := ⟨_, rfl⟩
  have B2 := B2.ext eM
  have hsz : h.size ≤ q := by rw [hqe]; exact X.1
  have X := X.trans eM.toX
  have hcl := k.lt
  have k := k.ext eM
  rw [← hqe] at Bz hcl hq ⊢
  generalize H3.more [[.int .i64 x1, .int .i64 x2, .int .i64 x3]] = M at Bz B2 X k ⊢
  obtain ⟨S, hS⟩ : ∃ S : Env → Heap → Prop, S = fun E K => ∃ z : Rgb, (0 ≤ z.g ∧ z.g ≤ 65535) ∧ (0 ≤ z.b ∧ z.b ≤ 65535) ∧ (-9223372036854775808 ≤ z.r ∧ z.r ≤ 9223372036854775807) ∧ ExtX [c] h K ∧ Cur K c ∧ Bx K h.size [.int .i64 0, .int .i64 0, .int .i64 0] ∧ Bx K q (encRgb z) ∧
    ∃ t, E = (0, .pointer (some ⟨c, 0, none⟩)) :: (2, .pointer (some ⟨h.size, 0, none⟩)) :: (3, .pointer (some ⟨q, 0, none⟩)) :: t := ⟨_, rfl⟩
  refine stepC.of (l1Once_ok _ _ _ k) ?_
  rintro _ K1 ⟨b, rfl, g, k⟩
  simp (maxSteps := 4000000) (disch := omega) only [ah, am, Nat.reduceEqDiff, reduceCtorEq, Nat.reduceAdd, Nat.reduceLeDiff, Nat.reduceMul, Nat.reduceLT, if_true, if_false, true_and, and_true, and_self, Nat.reduceBEq, QOp.loads, boxO, bslO, buildO, cutL, fillV, putL, w39, v39]
  have X := X.trans (toX1 g)
  have B2 := B2.step g (by omega)
  have Bz := Bz.step g (by omega)
  refine SW_if S (fun hb => ?_) (fun hb => ?_) ?_
  · have V := Bz.ld
    obtain ⟨K2, es, Bz, g⟩ := Bz.put (o := 1) (n := 1) (y := .int .i64 x1) rfl (by simp) rfl
    simp (maxSteps := 4000000) (disch := omega) only [ah, am, Nat.reduceEqDiff, reduceCtorEq, Nat.reduceAdd, Nat.reduceLeDiff, Nat.reduceMul, Nat.reduceLT, if_true, if_false, true_and, and_true, and_self, Nat.reduceBEq, QOp.loads, boxO, bslO, buildO, cutL, fillV, putL, w39, v39, V, es]
    rw [hS]
    exact ⟨⟨x1, x1, x3⟩, b1, b3, by simp only; omega, X.top g hsz, k.stepG g hcl, B2.step g (by omega), Bz, _, rfl⟩
  · rw [hS]
    exact ⟨⟨x1, x2, x3⟩, b2, b3, by simp only; omega, X, k, B2, Bz, _, rfl⟩
  rw [hS]
  clear hS S
  rintro E K ⟨z, z1, z2, z3, X, k, B2, Bz, t, rfl⟩
  obtain ⟨S, hS⟩ : ∃ S : Env → Heap → Prop, S = fun E K => ∃ z : Rgb, (0 ≤ z.g ∧ z.g ≤ 65535) ∧ (0 ≤ z.b ∧ z.b ≤ 65535) ∧ (-9223372036854775808 ≤ z.r ∧ z.r ≤ 9223372036854775807) ∧ ExtX [c] h K ∧ Cur K c ∧ Bx K h.size [.int .i64 0, .int .i64 0, .int .i64 0] ∧ Bx K q (encRgb z) ∧
    ∃ t, E = (0, .pointer (some ⟨c, 0, none⟩)) :: (2, .pointer (some ⟨h.size, 0, none⟩)) :: (3, .pointer (some ⟨q, 0, none⟩)) :: t := ⟨_, rfl⟩
  simp (maxSteps := 4000000) (disch := omega) only [ah, am, Nat.reduceEqDiff, reduceCtorEq, Nat.reduceAdd, Nat.reduceLeDiff, Nat.reduceMul, Nat.reduceLT, if_true, if_false, true_and, and_true, and_self, Nat.reduceBEq, QOp.loads, boxO, bslO, buildO, cutL, fillV, putL, w39, v39]
  refine stepC.of (l1Once_ok _ _ _ k) ?_
  rintro _ K1 ⟨b, rfl, g, k⟩
  simp (maxSteps := 4000000) (disch := omega) only [ah, am, Nat.reduceEqDiff, reduceCtorEq, Nat.reduceAdd, Nat.reduceLeDiff, Nat.reduceMul, Nat.reduceLT, if_true, if_false, true_and, and_true, and_self, Nat.reduceBEq, QOp.loads, boxO, bslO, buildO, cutL, fillV, putL, w39, v39]
  have X := X.trans (toX1 g)
  have B2 := B2.step g (by omega)
  have Bz := Bz.step g (by omega)
  refine SW_if S (fun hb => ?_) (fun hb => ?_) ?_
  · have V := Bz.ld
    obtain ⟨K2, es, Bz, g⟩ := Bz.put (o := 2) (n := 1) (y := .int .i64 z.g) rfl (by simp [encRgb]) rfl
    simp (maxSteps := 4000000) (disch := omega) only [ah, am, Nat.reduceEqDiff, reduceCtorEq, Nat.reduceAdd, Nat.reduceLeDiff, Nat.reduceMul, Nat.reduceLT, if_true, if_false, true_and, and_true, and_self, Nat.reduceBEq, QOp.loads, boxO, bslO, buildO, cutL, fillV, putL, w39, v39, V, encRgb, es]
    rw [hS]
    exact ⟨⟨z.r, z.g, z.g⟩, z1, z1, z3, X.top g hsz, k.stepG g hcl, B2.step g (by omega), Bz, _, rfl⟩
  · rw [hS]
    exact ⟨z, z1, z2, z3, X, k, B2, Bz, _, rfl⟩
  rw [hS]
  clear hS S
  rintro E K ⟨z, z1, z2, z3, X, k, B2, Bz, t, rfl⟩
  obtain ⟨S, hS⟩ : ∃ S : Env → Heap → Prop, S = fun E K => ∃ z : Rgb, (0 ≤ z.g ∧ z.g ≤ 65535) ∧ (0 ≤ z.b ∧ z.b ≤ 65535) ∧ (-9223372036854775808 ≤ z.r ∧ z.r ≤ 9223372036854775807) ∧ ExtX [c] h K ∧ Cur K c ∧ Bx K h.size [.int .i64 0, .int .i64 0, .int .i64 0] ∧ Bx K q (encRgb z) ∧
    ∃ t, E = (2, .pointer (some ⟨h.size, 0, none⟩)) :: (3, .pointer (some ⟨q, 0, none⟩)) :: t ∨ E = (0, .pointer (some ⟨c, 0, none⟩)) :: (2, .pointer (some ⟨h.size, 0, none⟩)) :: (3, .pointer (some ⟨q, 0, none⟩)) :: t := ⟨_, rfl⟩
  simp (maxSteps := 4000000) (disch := omega) only [ah, am, Nat.reduceEqDiff, reduceCtorEq, Nat.reduceAdd, Nat.reduceLeDiff, Nat.reduceMul, Nat.reduceLT, if_true, if_false, true_and, and_true, and_self, Nat.reduceBEq, QOp.loads, boxO, bslO, buildO, cutL, fillV, putL, w39, v39]
  refine stepC.of (l1Once_ok _ _ _ k) ?_
  rintro _ K1 ⟨b, rfl, g, k⟩
  simp (maxSteps := 4000000) (disch := omega) only [ah, am, Nat.reduceEqDiff, reduceCtorEq, Nat.reduceAdd, Nat.reduceLeDiff, Nat.reduceMul, Nat.reduceLT, if_true, if_false, true_and, and_true, and_self, Nat.reduceBEq, QOp.loads, boxO, bslO, buildO, cutL, fillV, putL, w39, v39]
  have X := X.trans (toX1 g)
  have B2 := B2.step g (by omega)
  have Bz := Bz.step g (by omega)
  refine SW_if S (fun hb => ?_) (fun hb => ?_) ?_
  · simp (maxSteps := 4000000) (disch := omega) only [ah, am, Nat.reduceEqDiff, reduceCtorEq, Nat.reduceAdd, Nat.reduceLeDiff, Nat.reduceMul, Nat.reduceLT, if_true, if_false, true_and, and_true, and_self, Nat.reduceBEq, QOp.loads, boxO, bslO, buildO, cutL, fillV, putL, w39, v39]
    have eM := Ext.more K1 [[.int .i64 (-1), .int .i64 65536, .int .i64 4611686018427387904]]
    have Bl : Bx (K1.more [[.int .i64 (-1), .int .i64 65536, .int .i64 4611686018427387904]]) K1.size [.int .i64 (-1), .int .i64 65536, .int .i64 4611686018427387904] := Bx.new _ _ _
    have hK := k.lt
    refine stepC.of (l1Below_ok _ _ _ (k.ext eM)) ?_
    rintro _ K2 ⟨x, rfl, a0, a1, _, g2, k⟩
    have a1 := a1 (by omega)
    have Bl := Bl.step g2 (by omega)
    have Bz := (Bz.ext eM).step g2 (by omega)
    have B2 := (B2.ext eM).step g2 (by omega)
    have X := X.trans (eM.toX.trans (toX1 g2))
    obtain ⟨y, hy, hb⟩ : ∃ y : Int, ldV K2 (.pointer (some ⟨K1.size, x.toNat, none⟩)) = some (.int .i64 y) ∧ -9223372036854775808 ≤ y ∧ y ≤ 9223372036854775807 := by
      have h6 : x = 0 ∨ x = 1 ∨ x = 2 := by omega
      rcases h6 with rfl | rfl | rfl <;> exact ⟨_, by rw [Bl.ld.1]; rfl, by omega, by omega⟩
    obtain ⟨K3, es, Bz, g⟩ := Bz.put (o := 0) (n := 1) (y := .int .i64 y) rfl (by simp [encRgb]) rfl
    simp (maxSteps := 4000000) (disch := omega) only [ah, am, Nat.reduceEqDiff, reduceCtorEq, Nat.reduceAdd, Nat.reduceLeDiff, Nat.reduceMul, Nat.reduceLT, if_true, if_false, true_and, and_true, and_self, Nat.reduceBEq, QOp.loads, boxO, bslO, buildO, cutL, fillV, putL, w39, v39, hy, es, Nat.mul_one]
    rw [hS]
    exact ⟨⟨y, z.g, z.b⟩, z1, z2, hb, X.top g hsz, k.stepG g hcl, B2.step g (by omega), Bz, _, .inl rfl⟩
  · rw [hS]
    exact ⟨z, z1, z2, z3, X, k, B2, Bz, _, .inr rfl⟩
  rw [hS]
  clear hS S
  rintro E K ⟨z, z1, z2, z3, X, k, B2, Bz, t, hE⟩
  have V : ldnV K 3 (.pointer (some ⟨q, 0, none⟩)) = some (.agg (encRgb z).toArray) := by rw [Bz.ld.2]; rfl
  obtain ⟨K2, es, B2, g⟩ := B2.put (o := 0) (n := 3) (y := .agg (encRgb z).toArray) rfl (by simp) rfl
  have V6 : ldnV K2 3 (.pointer (some ⟨h.size, 0, none⟩)) = some (.agg (encRgb z).toArray) := by rw [B2.ld.2]; rfl
  rcases hE with rfl | rfl
  · simp (maxSteps := 4000000) (disch := omega) only [ah, am, Nat.reduceEqDiff, reduceCtorEq, Nat.reduceAdd, Nat.reduceLeDiff, Nat.reduceMul, Nat.reduceLT, if_true, if_false, true_and, and_true, and_self, Nat.reduceBEq, QOp.loads, boxO, bslO, buildO, cutL, fillV, putL, w39, v39, V, es, V6]
    exact ⟨z, rfl, z1, z2, z3, X.top g (Nat.le_refl _), k.stepG g hc⟩
  · simp (maxSteps := 4000000) (disch := omega) only [ah, am, Nat.reduceEqDiff, reduceCtorEq, Nat.reduceAdd, Nat.reduceLeDiff, Nat.reduceMul, Nat.reduceLT, if_true, if_false, true_and, and_true, and_self, Nat.reduceBEq, QOp.loads, boxO, bslO, buildO, cutL, fillV, putL, w39, v39, V, es, V6]
    exact ⟨z, rfl, z1, z2, z3, X.top g (Nat.le_refl _), k.stepG g hc⟩
theorem DrawMatrix_ok (h : Heap) (v : Value) (l : List Int) (s : SlT h encByte 1 v l) (hl : l.length ≤ 4096) : ACall Try.prog 14 [v] h
    fun r h' => ∃ (mv : Value) (m : List Int) (z : Rgb), r = .tuple #[mv, .agg (encRgb z).toArray] ∧ SlT h' encI 1 mv m ∧ m.length ≤ 9 ∧ (0 ≤ z.g ∧ z.g ≤ 65535) ∧ (0 ≤ z.b ∧ z.b ≤ 65535) ∧ (-9223372036854775808 ≤ z.r ∧ z.r ≤ 9223372036854775807) ∧ Ext h h' := by
  refine ACall.of Try.func14 s14 (of_decide_eq_true rfl) ?_
  simp (maxSteps := 4000000) (disch := omega) only [ah, am, Nat.reduceEqDiff, reduceCtorEq, Nat.reduceAdd, Nat.reduceLeDiff, Nat.reduceMul, Nat.reduceLT, if_true, if_false, true_and, and_true, and_self, Nat.reduceBEq, QOp.loads, boxO, bslO, buildO, cutL, fillV, putL, w14, v14]
  refine stepC.of (l1New_ok _ _ _ (s.ext (Ext.more h _)) hl) ?_
  rintro _ H1 ⟨e1, rfl, k⟩
  have B3 : Bx (h.more [[.int .i64 0, .int .i64 0, .int .i64 0]]) h.size [.int .i64 0, .int .i64 0, .int .i64 0] := Bx.new _ _ _
  have B3 := B3.ext e1
  have E1 := (Ext.more h [[.int .i64 0, .int .i64 0, .int .i64 0]]).trans e1
  rw [size_more]
  rw [size_more] at k
  obtain ⟨c, hc⟩ : ∃ c, c = h.size + [[Value.int .i64 0, .int .i64 0, .int .i64 0]].length := ⟨_, rfl⟩
  rw [← hc] at k ⊢
  have hc : c = h.size + 1 := hc
  have hlt := k.lt
  simp (maxSteps := 4000000) (disch := omega) only [ah, am, Nat.reduceEqDiff, reduceCtorEq, Nat.reduceAdd, Nat.reduceLeDiff, Nat.reduceMul, Nat.reduceLT, if_true, if_false, true_and, and_true, and_self, Nat.reduceBEq, QOp.loads, boxO, bslO, buildO, cutL, fillV, putL, w14, v14]
  have XE : ExtX [c] (H1.more [[]]) (H1.more [[]]) := ExtX.refl _ _
  have F0 : Fk [c] H1 (H1.more [[]]) encI 1 (.slice (some ⟨H1.size, 0, none⟩) 0 1) [] [] := Fk.of (Fresh.new0 H1 encI_len (by omega))
  refine SW_loop_up (fun i E K => ∃ ov l, Fk [c] H1 K encI 1 ov l [] ∧ l.length = i ∧ Cur K c ∧ Bx K h.size [.int .i64 0, .int .i64 0, .int .i64 0] ∧
    E = [(3, .pointer (some ⟨h.size, 0, none⟩)), (4, .pointer (some ⟨c, 0, none⟩)), (5, ov), (6, .int .i64 (i : Int))]) 9 0 (by omega) ?_ ?_
  · exact ⟨_, _, F0, rfl, k.ext (Ext.more _ _), B3.ext (Ext.more _ _), rfl⟩
  clear F0 XE k B3
  rintro i E K hi ⟨ov, l, F, hl, k, B3, rfl⟩
  simp (maxSteps := 4000000) (disch := omega) only [ah, am, Nat.reduceEqDiff, reduceCtorEq, Nat.reduceAdd, Nat.reduceLeDiff, Nat.reduceMul, Nat.reduceLT, if_true, if_false, true_and, and_true, and_self, Nat.reduceBEq, QOp.loads, boxO, bslO, buildO, cutL, fillV, putL, w14, v14]
  refine stepI.split (fun hp => ?_) (fun hp => ?_)
  · simp (maxSteps := 4000000) (disch := omega) only [ah, am, Nat.reduceEqDiff, reduceCtorEq, Nat.reduceAdd, Nat.reduceLeDiff, Nat.reduceMul, Nat.reduceLT, if_true, if_false, true_and, and_true, and_self, Nat.reduceBEq, QOp.loads, boxO, bslO, buildO, cutL, fillV, putL, w14, v14]
    refine stepC.of (l1From_ok _ _ _ _ k (by omega) (by omega) (by omega)) ?_
    rintro _ K1 ⟨x, rfl, hx, g, k⟩
    have F := F.stepG g (by simp) hlt
    have B3 := B3.step g (by omega)
    obtain ⟨v2, H3, ea, F3, g2, hg2, G⟩ := F.app1g [] x (bytes := 8) (by omega)
    simp only [List.nil_append, List.length_nil, Nat.add_zero, boxesAt, List.append_nil, encI] at ea F3 G
    have W : IntKind.i64.wrap ((i : Int) + 1) = ((i + 1 : Nat) : Int) := i64e (by omega) (by omega)
    simp (maxSteps := 4000000) (disch := omega) only [ah, am, Nat.reduceEqDiff, reduceCtorEq, Nat.reduceAdd, Nat.reduceLeDiff, Nat.reduceMul, Nat.reduceLT, if_true, if_false, true_and, and_true, and_self, Nat.reduceBEq, QOp.loads, boxO, bslO, buildO, cutL, fillV, putL, w14, v14, ea, W]
    have hs := E1.1
    exact ⟨by omega, _, _, F3, by simp [hl], (k.ext (Ext.more _ _)).stepG G (by omega), (B3.ext (Ext.more _ _)).step G (by omega), rfl⟩
  have hl9 : l.length = 9 := by omega
  clear hp hi hl
  simp (maxSteps := 4000000) (disch := omega) only [ah, am, Nat.reduceEqDiff, reduceCtorEq, Nat.reduceAdd, Nat.reduceLeDiff, Nat.reduceMul, Nat.reduceLT, if_true, if_false, true_and, and_true, and_self, Nat.reduceBEq, QOp.loads, boxO, bslO, buildO, cutL, fillV, putL, w14, v14]
  obtain ⟨S, hS⟩ : ∃ S : Env → Heap → Prop, S = fun E K => ∃ ov l, Fk [c] H1 K encI 1 ov l [] ∧ l.length = 9 ∧ Cur K c ∧ Bx K h.size [.int .i64 0, .int .i64 0, .int .i64 0] ∧
    ∃ t, E = (3, .pointer (some ⟨h.size, 0, none⟩)) :: (4, .pointer (some ⟨c, 0, none⟩)) :: (5, ov) :: t := ⟨_, rfl⟩
  refine stepC.of (l1Once_ok _ _ _ k) ?_
  rintro _ K1 ⟨b, rfl, g, k⟩
  have F := F.stepG g (by simp) hlt
  have B3 := B3.step g (by omega)
  simp (maxSteps := 4000000) (disch := omega) only [ah, am, Nat.reduceEqDiff, reduceCtorEq, Nat.reduceAdd, Nat.reduceLeDiff, Nat.reduceMul, Nat.reduceLT, if_true, if_false, true_and, and_true, and_self, Nat.reduceBEq, QOp.loads, boxO, bslO, buildO, cutL, fillV, putL, w14, v14]
  refine SW_if S (fun hb => ?_) (fun hb => ?_) ?_
  · simp (maxSteps := 4000000) (disch := omega) only [ah, am, Nat.reduceEqDiff, reduceCtorEq, Nat.reduceAdd, Nat.reduceLeDiff, Nat.reduceMul, Nat.reduceLT, if_true, if_false, true_and, and_true, and_self, Nat.reduceBEq, QOp.loads, boxO, bslO, buildO, cutL, fillV, putL, w14, v14]
    rw [hS]
    have e := Ext.more K1 [[.int .i64 4096, .int .i64 0, .int .i64 0, .int .i64 0, .int .i64 4096, .int .i64 0, .int .i64 0, .int .i64 0, .int .i64 4096]]
    have F2 := Fresh.new K1 [4096, 0, 0, 0, 4096, 0, 0, 0, 4096] encI_len (by omega)
    exact ⟨_, _, (Fk.of (X := [c]) F2).mono F.ext, rfl, k.ext e, B3.ext e, _, rfl⟩
  · rw [hS]
    exact ⟨_, _, F, hl9, k, B3, _, rfl⟩
  rw [hS]
  clear k F B3 hl9
  rintro E K ⟨ov, l, F, hl9, k, B3, t, rfl⟩
  simp (maxSteps := 4000000) (disch := omega) only [ah, am, Nat.reduceEqDiff, reduceCtorEq, Nat.reduceAdd, Nat.reduceLeDiff, Nat.reduceMul, Nat.reduceLT, if_true, if_false, true_and, and_true, and_self, Nat.reduceBEq, QOp.loads, boxO, bslO, buildO, cutL, fillV, putL, w14, v14]
  refine stepC.of (l1Once_ok _ _ _ k) ?_
  rintro _ K1 ⟨b, rfl, g, k⟩
  have F := F.stepG g (by simp) hlt
  have B3 := B3.step g (by omega)
  simp (maxSteps := 4000000) (disch := omega) only [ah, am, Nat.reduceEqDiff, reduceCtorEq, Nat.reduceAdd, Nat.reduceLeDiff, Nat.reduceMul, Nat.reduceLT, if_true, if_false, true_and, and_true, and_self, Nat.reduceBEq, QOp.loads, boxO, bslO, buildO, cutL, fillV, putL, w14, v14]
  refine SW_if S (fun hb => ?_) (fun hb => ?_) ?_
  · simp (maxSteps := 4000000) (disch := omega) only [ah, am, Nat.reduceEqDiff, reduceCtorEq, Nat.reduceAdd, Nat.reduceLeDiff, Nat.reduceMul, Nat.reduceLT, if_true, if_false, true_and, and_true, and_self, Nat.reduceBEq, QOp.loads, boxO, bslO, buildO, cutL, fillV, putL, w14, v14]
    refine stepC.of (l1Below_ok _ _ _ k) ?_
    rintro _ K2 ⟨x, rfl, x0, x1, _, g, k⟩
    have x1 := x1 (by omega)
    have F := F.stepG g (by simp) hlt
    have B3 := B3.step g (by omega)
    simp (maxSteps := 4000000) (disch := omega) only [ah, am, Nat.reduceEqDiff, reduceCtorEq, Nat.reduceAdd, Nat.reduceLeDiff, Nat.reduceMul, Nat.reduceLT, if_true, if_false, true_and, and_true, and_self, Nat.reduceBEq, QOp.loads, boxO, bslO, buildO, cutL, fillV, putL, w14, v14]
    have eM := Ext.more K2 [[.int .i64 (-65536), .int .i64 65536, .int .i64 65537, .int .i64 (-9223372036854775808)]]
    have Bl : Bx (K2.more [[.int .i64 (-65536), .int .i64 65536, .int .i64 65537, .int .i64 (-9223372036854775808)]]) K2.size [.int .i64 (-65536), .int .i64 65536, .int .i64 65537, .int .i64 (-9223372036854775808)] := Bx.new _ _ _
    have hK := k.lt
    refine stepC.of (l1Below_ok _ _ _ (k.ext eM)) ?_
    rintro _ K3 ⟨y, rfl, y0, y1, _, g2, k⟩
    have y1 := y1 (by omega)
    have Bl := Bl.step g2 (by omega)
    have F := (F.step eM).stepG g2 (by simp) hlt
    have B3 := (B3.ext eM).step g2 (by omega)
    obtain ⟨z, hz⟩ : ∃ z : Int, ldV K3 (.pointer (some ⟨K2.size, y.toNat, none⟩)) = some (.int .i64 z) := by
      have h6 : y = 0 ∨ y = 1 ∨ y = 2 ∨ y = 3 := by omega
      rcases h6 with rfl | rfl | rfl | rfl <;> exact ⟨_, by rw [Bl.ld.1]; rfl⟩
    obtain ⟨xn, rfl⟩ : ∃ m : Nat, x = (m : Int) := ⟨x.toNat, by omega⟩
    have A := F.slt.rulesN.2.1 .i64 xn (by omega)
    obtain ⟨K4, es, F4, g3, hg3, G⟩ := F.setF (j := xn) (f := 0) (n := 1) (x := z) (y := .int .i64 z) (by omega) rfl (by omega) rfl (by omega) rfl
    simp only [Nat.mul_one, Nat.add_zero] at A es
    have hs := E1.1
    simp (maxSteps := 4000000) (disch := omega) only [ah, am, Nat.reduceEqDiff, reduceCtorEq, Nat.reduceAdd, Nat.reduceLeDiff, Nat.reduceMul, Nat.reduceLT, if_true, if_false, true_and, and_true, and_self, Nat.reduceBEq, QOp.loads, boxO, bslO, buildO, cutL, fillV, putL, w14, v14, hz, A, es, Nat.mul_one, Nat.add_zero]
    rw [hS]
    exact ⟨_, _, F4, by simpa using hl9, k.stepG G (by omega), B3.step G (by omega), _, rfl⟩
  · rw [hS]
    exact ⟨_, _, F, hl9, k, B3, _, rfl⟩
  rw [hS]
  clear k F B3 hl9 hS S
  rintro E K ⟨ov, l, F, hl9, k, B3, t, rfl⟩
  simp (maxSteps := 4000000) (disch := omega) only [ah, am, Nat.reduceEqDiff, reduceCtorEq, Nat.reduceAdd, Nat.reduceLeDiff, Nat.reduceMul, Nat.reduceLT, if_true, if_false, true_and, and_true, and_self, Nat.reduceBEq, QOp.loads, boxO, bslO, buildO, cutL, fillV, putL, w14, v14]
  refine stepC.of (l1Once_ok _ _ _ k) ?_
  rintro _ K1 ⟨b, rfl, g, k⟩
  have F := F.stepG g (by simp) hlt
  have B3 := B3.step g (by omega)
  simp (maxSteps := 4000000) (disch := omega) only [ah, am, Nat.reduceEqDiff, reduceCtorEq, Nat.reduceAdd, Nat.reduceLeDiff, Nat.reduceMul, Nat.reduceLT, if_true, if_false, true_and, and_true, and_self, Nat.reduceBEq, QOp.loads, boxO, bslO, buildO, cutL, fillV, putL, w14, v14]
  refine SW_if (fun E K => ∃ ov l, Fk [c] H1 K encI 1 ov l [] ∧ l.length ≤ 9 ∧ Cur K c ∧ Bx K h.size [.int .i64 0, .int .i64 0, .int .i64 0] ∧ ∃ t, E = (3, .pointer (some ⟨h.size, 0, none⟩)) :: (4, .pointer (some ⟨c, 0, none⟩)) :: (5, ov) :: t) (fun hb => ?_) (fun hb => ?_) ?_
  · simp (maxSteps := 4000000) (disch := omega) only [ah, am, Nat.reduceEqDiff, reduceCtorEq, Nat.reduceAdd, Nat.reduceLeDiff, Nat.reduceMul, Nat.reduceLT, if_true, if_false, true_and, and_true, and_self, Nat.reduceBEq, QOp.loads, boxO, bslO, buildO, cutL, fillV, putL, w14, v14]
    refine stepC.of (l1Below_ok _ _ _ k) ?_
    rintro _ K2 ⟨x, rfl, x0, x1, _, g, k⟩
    have x1 := x1 (by omega)
    have F := F.stepG g (by simp) hlt
    have B3 := B3.step g (by omega)
    obtain ⟨xn, rfl⟩ : ∃ m : Nat, x = (m : Int) := ⟨x.toNat, by omega⟩
    obtain ⟨gg, q1, q2, q3⟩ := F.own
    obtain ⟨u, hu, ou⟩ := OwnT_upTo q2 xn (by omega) (by omega)
    have F2 : Fk [c] H1 K2 encI 1 u (l.take xn) [] := ⟨F.ext, ⟨gg, q1, ou, fun p hp => by cases hp⟩, fun p hp => by cases hp⟩
    simp (maxSteps := 4000000) (disch := omega) only [ah, am, Nat.reduceEqDiff, reduceCtorEq, Nat.reduceAdd, Nat.reduceLeDiff, Nat.reduceMul, Nat.reduceLT, if_true, if_false, true_and, and_true, and_self, Nat.reduceBEq, QOp.loads, boxO, bslO, buildO, cutL, fillV, putL, w14, v14, hu]
    exact ⟨_, _, F2, by simp; omega, k, B3, _, rfl⟩
  · exact ⟨_, _, F, by omega, k, B3, _, rfl⟩
  clear k F B3 hl9
  rintro E K ⟨ov, l, F, hl9, k, B3, t, rfl⟩
  simp (maxSteps := 4000000) (disch := omega) only [ah, am, Nat.reduceEqDiff, reduceCtorEq, Nat.reduceAdd, Nat.reduceLeDiff, Nat.reduceMul, Nat.reduceLT, if_true, if_false, true_and, and_true, and_self, Nat.reduceBEq, QOp.loads, boxO, bslO, buildO, cutL, fillV, putL, w14, v14]
  refine stepC.of (l9DrawRgb_ok _ _ k) ?_
  rintro _ K2 ⟨z, rfl, z1, z2, z3, X2, k⟩
  have B3 := B3.step (X2.toG) (by omega)
  obtain ⟨K3, es, B3, g⟩ := B3.put (o := 0) (n := 3) (y := .agg (encRgb z).toArray) rfl (by simp) rfl
  have V6 : ldnV K3 3 (.pointer (some ⟨h.size, 0, none⟩)) = some (.agg (encRgb z).toArray) := by rw [B3.ld.2]; rfl
  have hs := E1.1
  simp (maxSteps := 4000000) (disch := omega) only [ah, am, Nat.reduceEqDiff, reduceCtorEq, Nat.reduceAdd, Nat.reduceLeDiff, Nat.reduceMul, Nat.reduceLT, if_true, if_false, true_and, and_true, and_self, Nat.reduceBEq, QOp.loads, boxO, bslO, buildO, cutL, fillV, putL, w14, v14, es, V6]
  have F := F.stepG X2.toG (by simp) hlt
  obtain ⟨gg, q1, q2, q3⟩ := F.own
  exact ⟨_, _, z, rfl, (q2.extG g (by omega)).slt, hl9, z1, z2, z3, g.ext (F.ext.toG.ext E1 (by omega)) (by omega)⟩
end Go.Proofs.Ytmhbmbhdeofbaaa
