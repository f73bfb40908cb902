import Derived.Test.YtgmimgmdbpcecaaDoorR1
import Derived.Test.YtgmimgmdbpcecaaDoorI5
import Derived.Lib.ItoaNum
namespace Go.Proofs.YtgmimgmdbpcecaaDoor
open Go Go.Ah
set_option linter.unusedSimpArgs false
set_option linter.unusedVariables false
set_option maxRecDepth 10000
set_option maxHeartbeats 4000000
/-! 13 loop.example/g00066/spec.l1Int: parameters 1, live [0], slots [0:n, 1:n, 3:s] -/
def c13_0 : List SOper := [⟨some 2, .q (.mv (.c (.string ⟨#[]⟩))), none⟩]
def c13_1 : List SOper := [⟨some 4, .q (.mv (.t 0)), none⟩, ⟨some 5, .q (.bin .lss (.t 4) (.c (.int .i64 0))), none⟩]
def c13_2 : List SOper := [⟨some 6, .q (.mv (.t 0)), none⟩, ⟨some 7, .q (.neg (.t 6)), none⟩, ⟨some 8, .e (.call 13 [(.t 7)]), none⟩, ⟨some 9, .q (.bin .add (.c (.string ⟨#[45]⟩)) (.t 8)), none⟩, ⟨some 2, .q (.mv (.t 9)), none⟩]
def c13_3 : SCode := .seq (.region c13_2 [2]) .ret
def c13_4 : SCode := .cond (.t 5) c13_3 .skip
def c13_5 : SCode := .seq (.region c13_1 [0, 5]) c13_4
def c13_6 : List SOper := [⟨some 3, .q (.mv (.c (.string ⟨#[]⟩))), none⟩]
def c13_7 : List SOper := [⟨some 10, .q (.mv (.t 3)), none⟩, ⟨some 11, .q (.bin .eql (.t 10) (.c (.string ⟨#[]⟩))), none⟩, ⟨some 12, .q (.mv (.t 11)), none⟩, ⟨some 13, .q (.mv (.t 0)), some (12, false)⟩, ⟨some 14, .q (.bin .gtr (.t 13) (.c (.int .i64 0))), some (12, false)⟩, ⟨some 15, .q (.pick (.t 12) (.c (.bool true)) (.t 14)), none⟩]
def c13_8 : SCode := .cond (.t 15) .skip (.exit 0)
def c13_9 : SCode := .seq (.region c13_7 [0, 3, 15]) c13_8
def c13_10 : List SOper := [⟨some 16, .q (.mv (.t 0)), none⟩, ⟨some 17, .q (.bin .rem (.t 16) (.c (.int .i64 10))), none⟩, ⟨some 18, .q (.bin .add (.c (.int .i64 48)) (.t 17)), none⟩, ⟨some 19, .q (.cvi .u8 (.t 18)), none⟩, ⟨some 20, .a (.bsl 1 1 [(.int .u8 0)] [(0, 1, (.t 19))]), none⟩, ⟨some 21, .q (.cbs (.t 20)), none⟩, ⟨some 22, .q (.mv (.t 3)), none⟩, ⟨some 23, .q (.bin .add (.t 21) (.t 22)), none⟩, ⟨some 3, .q (.mv (.t 23)), none⟩]
def c13_11 : List SOper := [⟨some 24, .q (.mv (.t 0)), none⟩, ⟨some 25, .q (.bin .quo (.t 24) (.c (.int .i64 10))), none⟩, ⟨some 0, .q (.mv (.t 25)), none⟩]
def c13_12 : SCode := .seq (.region c13_10 [0, 3]) (.region c13_11 [0, 3])
def c13_13 : SCode := .block 1 c13_12
def c13_14 : SCode := .seq c13_9 c13_13
def c13_15 : SCode := .loop c13_14
def c13_16 : SCode := .block 0 c13_15
def c13_17 : List SOper := [⟨some 26, .q (.mv (.t 3)), none⟩, ⟨some 2, .q (.mv (.t 26)), none⟩]
def c13_18 : SCode := .seq (.region c13_17 [2]) .ret
def c13_19 : SCode := .seq c13_16 c13_18
def c13_20 : SCode := .seq (.region c13_6 [0, 3]) c13_19
def c13_21 : SCode := .seq c13_5 c13_20
def c13_22 : SCode := .seq (.region c13_0 [0]) c13_21
def c13 : SCode := c13_22
theorem w13 : type_of% (And.intro (uR Tryd.prog c13_0.eq_1) (And.intro (uR Tryd.prog c13_1.eq_1) (And.intro (uR Tryd.prog c13_2.eq_1) (And.intro (uC Tryd.prog c13_3.eq_1) (And.intro (uC Tryd.prog c13_4.eq_1) (And.intro (uC Tryd.prog c13_5.eq_1) (And.intro (uR Tryd.prog c13_6.eq_1) (And.intro (uR Tryd.prog c13_7.eq_1) (And.intro (uC Tryd.prog c13_8.eq_1) (And.intro (uC Tryd.prog c13_9.eq_1) (And.intro (uR Tryd.prog c13_10.eq_1) (And.intro (uR Tryd.prog c13_11.eq_1) (And.intro (uC Tryd.prog c13_12.eq_1) (And.intro (uC Tryd.prog c13_13.eq_1) (And.intro (uC Tryd.prog c13_14.eq_1) (And.intro (uC Tryd.prog c13_15.eq_1) (And.intro (uC Tryd.prog c13_16.eq_1) (And.intro (uR Tryd.prog c13_17.eq_1) (And.intro (uC Tryd.prog c13_18.eq_1) (And.intro (uC Tryd.prog c13_19.eq_1) (And.intro (uC Tryd.prog c13_20.eq_1) (And.intro (uC Tryd.prog c13_21.eq_1) (And.intro (uC Tryd.prog c13_22.eq_1) (uC Tryd.prog c13.eq_1)))))))))))))))))))))))) := (And.intro (uR Tryd.prog c13_0.eq_1) (And.intro (uR Tryd.prog c13_1.eq_1) (And.intro (uR Tryd.prog c13_2.eq_1) (And.intro (uC Tryd.prog c13_3.eq_1) (And.intro (uC Tryd.prog c13_4.eq_1) (And.intro (uC Tryd.prog c13_5.eq_1) (And.intro (uR Tryd.prog c13_6.eq_1) (And.intro (uR Tryd.prog c13_7.eq_1) (And.intro (uC Tryd.prog c13_8.eq_1) (And.intro (uC Tryd.prog c13_9.eq_1) (And.intro (uR Tryd.prog c13_10.eq_1) (And.intro (uR Tryd.prog c13_11.eq_1) (And.intro (uC Tryd.prog c13_12.eq_1) (And.intro (uC Tryd.prog c13_13.eq_1) (And.intro (uC Tryd.prog c13_14.eq_1) (And.intro (uC Tryd.prog c13_15.eq_1) (And.intro (uC Tryd.prog c13_16.eq_1) (And.intro (uR Tryd.prog c13_17.eq_1) (And.intro (uC Tryd.prog c13_18.eq_1) (And.intro (uC Tryd.prog c13_19.eq_1) (And.intro (uC Tryd.prog c13_20.eq_1) (And.intro (uC Tryd.prog c13_21.eq_1) (And.intro (uC Tryd.prog c13_22.eq_1) (uC Tryd.prog c13.eq_1))))))))))))))))))))))))
def v13 : List RV := [.t 2]
theorem s13 : slimF Tryd.prog Tryd.f13 = some (c13.bare, v13) := by kernel_rfl
/-! 27 loop.example/g00066/spec.l1Wide: parameters 2, live [0, 1], slots [0:n, 1:k, 2:n, 3:k, 5:s] -/
def c27_0 : List SOper := [⟨some 4, .q (.mv (.c (.string ⟨#[]⟩))), none⟩]
def c27_1 : List SOper := [⟨some 6, .q (.mv (.t 0)), none⟩, ⟨some 7, .e (.call 13 [(.t 6)]), none⟩, ⟨some 5, .q (.mv (.t 7)), none⟩]
def c27_2 : List SOper := [⟨some 8, .q (.mv (.t 5)), none⟩, ⟨some 9, .q (.lens (.t 8)), none⟩, ⟨some 10, .q (.mv (.t 1)), none⟩, ⟨some 11, .q (.bin .lss (.t 9) (.t 10)), none⟩]
def c27_3 : SCode := .cond (.t 11) .skip (.exit 0)
def c27_4 : SCode := .seq (.region c27_2 [1, 5, 11]) c27_3
def c27_5 : List SOper := [⟨some 12, .q (.mv (.t 5)), none⟩, ⟨some 13, .q (.bin .add (.c (.string ⟨#[48]⟩)) (.t 12)), none⟩, ⟨some 5, .q (.mv (.t 13)), none⟩]
def c27_6 : SCode := .block 1 (.region c27_5 [1, 5])
def c27_7 : SCode := .seq c27_4 c27_6
def c27_8 : SCode := .loop c27_7
def c27_9 : SCode := .block 0 c27_8
def c27_10 : List SOper := [⟨some 14, .q (.mv (.t 5)), none⟩, ⟨some 4, .q (.mv (.t 14)), none⟩]
def c27_11 : SCode := .seq (.region c27_10 [4]) .ret
def c27_12 : SCode := .seq c27_9 c27_11
def c27_13 : SCode := .seq (.region c27_1 [1, 5]) c27_12
def c27_14 : SCode := .seq (.region c27_0 [0, 1]) c27_13
def c27 : SCode := c27_14
theorem w27 : type_of% (And.intro (uR Tryd.prog c27_0.eq_1) (And.intro (uR Tryd.prog c27_1.eq_1) (And.intro (uR Tryd.prog c27_2.eq_1) (And.intro (uC Tryd.prog c27_3.eq_1) (And.intro (uC Tryd.prog c27_4.eq_1) (And.intro (uR Tryd.prog c27_5.eq_1) (And.intro (uC Tryd.prog c27_6.eq_1) (And.intro (uC Tryd.prog c27_7.eq_1) (And.intro (uC Tryd.prog c27_8.eq_1) (And.intro (uC Tryd.prog c27_9.eq_1) (And.intro (uR Tryd.prog c27_10.eq_1) (And.intro (uC Tryd.prog c27_11.eq_1) (And.intro (uC Tryd.prog c27_12.eq_1) (And.intro (uC Tryd.prog c27_13.eq_1) (And.intro (uC Tryd.prog c27_14.eq_1) (uC Tryd.prog c27.eq_1)))))))))))))))) := (And.intro (uR Tryd.prog c27_0.eq_1) (And.intro (uR Tryd.prog c27_1.eq_1) (And.intro (uR Tryd.prog c27_2.eq_1) (And.intro (uC Tryd.prog c27_3.eq_1) (And.intro (uC Tryd.prog c27_4.eq_1) (And.intro (uR Tryd.prog c27_5.eq_1) (And.intro (uC Tryd.prog c27_6.eq_1) (And.intro (uC Tryd.prog c27_7.eq_1) (And.intro (uC Tryd.prog c27_8.eq_1) (And.intro (uC Tryd.prog c27_9.eq_1) (And.intro (uR Tryd.prog c27_10.eq_1) (And.intro (uC Tryd.prog c27_11.eq_1) (And.intro (uC Tryd.prog c27_12.eq_1) (And.intro (uC Tryd.prog c27_13.eq_1) (And.intro (uC Tryd.prog c27_14.eq_1) (uC Tryd.prog c27.eq_1))))))))))))))))
def v27 : List RV := [.t 4]
theorem s27 : slimF Tryd.prog Tryd.f27 = some (c27.bare, v27) := by kernel_rfl
/-! 35 loop.example/g00066/impl.padded: parameters 2, live [0, 1], slots [0:n, 1:wide, 2:n, 3:wide, 5:s] -/
def c35_0 : List SOper := [⟨some 4, .q (.mv (.c (.string ⟨#[]⟩))), none⟩]
def c35_1 : List SOper := [⟨some 6, .q (.mv (.t 0)), none⟩, ⟨some 7, .e (.call 43 [(.t 6), (.c (.int .i64 10))]), none⟩, ⟨some 5, .q (.mv (.t 7)), none⟩]
def c35_2 : List SOper := [⟨some 8, .q (.mv (.t 1)), none⟩, ⟨some 9, .q (.mv (.t 5)), none⟩, ⟨some 10, .q (.lens (.t 9)), none⟩, ⟨some 11, .q (.bin .sub (.t 8) (.t 10)), none⟩, ⟨some 12, .q (.mx (.t 11) (.c (.int .i64 0))), none⟩, ⟨some 13, .e (.call 44 [(.c (.string ⟨#[48]⟩)), (.t 12)]), none⟩, ⟨some 14, .q (.mv (.t 5)), none⟩, ⟨some 15, .q (.bin .add (.t 13) (.t 14)), none⟩, ⟨some 4, .q (.mv (.t 15)), none⟩]
def c35_3 : SCode := .seq (.region c35_2 [4]) .ret
def c35_4 : SCode := .seq (.region c35_1 [1, 5]) c35_3
def c35_5 : SCode := .seq (.region c35_0 [0, 1]) c35_4
def c35 : SCode := c35_5
theorem w35 : type_of% (And.intro (uR Tryd.prog c35_0.eq_1) (And.intro (uR Tryd.prog c35_1.eq_1) (And.intro (uR Tryd.prog c35_2.eq_1) (And.intro (uC Tryd.prog c35_3.eq_1) (And.intro (uC Tryd.prog c35_4.eq_1) (And.intro (uC Tryd.prog c35_5.eq_1) (uC Tryd.prog c35.eq_1))))))) := (And.intro (uR Tryd.prog c35_0.eq_1) (And.intro (uR Tryd.prog c35_1.eq_1) (And.intro (uR Tryd.prog c35_2.eq_1) (And.intro (uC Tryd.prog c35_3.eq_1) (And.intro (uC Tryd.prog c35_4.eq_1) (And.intro (uC Tryd.prog c35_5.eq_1) (uC Tryd.prog c35.eq_1)))))))
def v35 : List RV := [.t 4]
theorem s35 : slimF Tryd.prog Tryd.f35 = some (c35.bare, v35) := by kernel_rfl
/-! 15 loop.example/g00066/spec.l6Digits: parameters 1, live [0], slots [0:n, 1:n] -/
def c15_0 : List SOper := [⟨some 2, .q (.mv (.c (.string ⟨#[]⟩))), none⟩]
def c15_1 : List SOper := [⟨some 3, .q (.mv (.t 0)), none⟩, ⟨some 4, .q (.bin .lss (.t 3) (.c (.int .i64 1000))), none⟩]
def c15_2 : List SOper := [⟨some 5, .q (.mv (.t 0)), none⟩, ⟨some 6, .e (.call 27 [(.t 5), (.c (.int .i64 3))]), none⟩, ⟨some 2, .q (.mv (.t 6)), none⟩]
def c15_3 : SCode := .seq (.region c15_2 [2]) .ret
def c15_4 : SCode := .cond (.t 4) c15_3 .skip
def c15_5 : SCode := .seq (.region c15_1 [0, 4]) c15_4
def c15_6 : List SOper := [⟨some 7, .q (.mv (.t 0)), none⟩, ⟨some 8, .e (.call 13 [(.t 7)]), none⟩, ⟨some 2, .q (.mv (.t 8)), none⟩]
def c15_7 : SCode := .seq (.region c15_6 [2]) .ret
def c15_8 : SCode := .seq c15_5 c15_7
def c15_9 : SCode := .seq (.region c15_0 [0]) c15_8
def c15 : SCode := c15_9
theorem w15 : type_of% (And.intro (uR Tryd.prog c15_0.eq_1) (And.intro (uR Tryd.prog c15_1.eq_1) (And.intro (uR Tryd.prog c15_2.eq_1) (And.intro (uC Tryd.prog c15_3.eq_1) (And.intro (uC Tryd.prog c15_4.eq_1) (And.intro (uC Tryd.prog c15_5.eq_1) (And.intro (uR Tryd.prog c15_6.eq_1) (And.intro (uC Tryd.prog c15_7.eq_1) (And.intro (uC Tryd.prog c15_8.eq_1) (And.intro (uC Tryd.prog c15_9.eq_1) (uC Tryd.prog c15.eq_1))))))))))) := (And.intro (uR Tryd.prog c15_0.eq_1) (And.intro (uR Tryd.prog c15_1.eq_1) (And.intro (uR Tryd.prog c15_2.eq_1) (And.intro (uC Tryd.prog c15_3.eq_1) (And.intro (uC Tryd.prog c15_4.eq_1) (And.intro (uC Tryd.prog c15_5.eq_1) (And.intro (uR Tryd.prog c15_6.eq_1) (And.intro (uC Tryd.prog c15_7.eq_1) (And.intro (uC Tryd.prog c15_8.eq_1) (And.intro (uC Tryd.prog c15_9.eq_1) (uC Tryd.prog c15.eq_1)))))))))))
def v15 : List RV := [.t 2]
theorem s15 : slimF Tryd.prog Tryd.f15 = some (c15.bare, v15) := by kernel_rfl

/-! ### Strings -/
theorem bytes_inj {a b : ByteArray} (h : a.data.toList = b.data.toList) : a = b := by
  obtain ⟨⟨a⟩⟩ := a
  obtain ⟨⟨b⟩⟩ := b
  simp only at h
  rw [h]
theorem bytes_beq (a b : ByteArray) : (a.toList == b.toList) = decide (a.data.toList = b.data.toList) := by
  rw [ByteArray.toList_eq, ByteArray.toList_eq]
  rw [Bool.eq_iff_iff]; simp
theorem strB_eql (a b : ByteArray) : strB .eql a b = some (.bool (decide (a.data.toList = b.data.toList))) := by
  rw [← bytes_beq]; rfl
theorem strB_neq (a b : ByteArray) : strB .neq a b = some (.bool (!decide (a.data.toList = b.data.toList))) := by
  rw [← bytes_beq]; rfl
theorem strB_add (a b : ByteArray) (h : a.size + b.size ≤ 9223372036854775807) : strB .add a b = some (.string (a ++ b)) := if_pos h
def bL (l : List UInt8) : ByteArray := ⟨l.toArray⟩
theorem bL_data (l : List UInt8) : (bL l).data.toList = l := rfl
theorem bL_size (l : List UInt8) : (bL l).size = l.length := by show l.toArray.size = _; simp
theorem bL_of (s : ByteArray) : bL s.data.toList = s := bytes_inj rfl
theorem bL_app (a b : List UInt8) : bL a ++ bL b = bL (a ++ b) := bytes_inj (by simp [bL])
theorem strB_nil (l : List UInt8) : strB .eql (bL l) ⟨#[]⟩ = some (.bool (decide (l = []))) := strB_eql (bL l) ⟨#[]⟩
theorem strB_addL (a b : List UInt8) (h : a.length + b.length ≤ 9223372036854775807) : strB .add (bL a) (bL b) = some (.string (bL (a ++ b))) := by
  rw [← bL_app]; exact if_pos (by rw [bL_size, bL_size]; exact h)
theorem u8w {x : Int} (h : 0 ≤ x ∧ x < 256) : IntKind.u8.wrap x = x := by
  simp [IntKind.wrap, IntKind.signed, IntKind.bits]; omega
theorem cbs_one (K : Heap) (L : List (List Value)) (n : Int) : cbsV (K.more (L ++ [[.int .u8 n]])) (.slice (some ⟨K.size + L.length, 0, none⟩) 1 1) = some (.string (bytesS [n])) := by
  have : rdn (K.more (L ++ [[.int .u8 n]])) (K.size + L.length) 0 1 = some [.int .u8 n] := by
    unfold rdn
    rw [get_more]
    simp
  simp only [cbsV, this, Option.bind_some, bytesV, Option.map_some]
theorem cbs_one0 (K : Heap) (n : Int) : cbsV (K.more [[.int .u8 n]]) (.slice (some ⟨K.size, 0, none⟩) 1 1) = some (.string (bytesS [n])) := cbs_one K [] n
theorem bytesS_bL (n : Int) : bytesS [n] = bL [UInt8.ofNat n.toNat] := rfl
/-! ### Digits -/
abbrev digs (n : Nat) : List UInt8 := Go.Lib.decDigits n
theorem digs_step {n : Nat} (h : ¬ n < 10) : digs n = digs (n / 10) ++ [UInt8.ofNat (48 + n % 10)] := by
  show Go.Lib.decDigits n = _
  rw [Go.Lib.decDigits, dif_neg h]
theorem digs_small {n : Nat} (h : n < 10) : digs n = [UInt8.ofNat (48 + n)] := Go.Lib.decDigits_one h
theorem digs_len : ∀ (k n : Nat), n < 10 ^ (k + 1) → (digs n).length ≤ k + 1 := by
  intro k
  induction k with
  | zero => intro n hn; rw [digs_small (by simpa using hn)]; simp
  | succ k ih =>
    intro n hn
    by_cases h : n < 10
    · rw [digs_small h]; simp
    · rw [digs_step h, List.length_append]
      have := ih (n / 10) (by rw [Nat.pow_succ] at hn; omega)
      simp; omega
theorem digs_pos (n : Nat) : 0 < (digs n).length := by
  by_cases h : n < 10
  · rw [digs_small h]; simp
  · rw [digs_step h]; simp
theorem digs_len19 {n : Nat} (h : n ≤ 9223372036854775807) : (digs n).length ≤ 19 := digs_len 18 n (by omega)
theorem itoa_nat (n : Nat) : itoaB (n : Int) = bL (digs n) := by
  unfold itoaB Go.Lib.itoa
  rw [if_neg (by omega)]; rfl
/-- What is left to write ahead of what is written. -/
def leftD (n : Nat) (sfx : List UInt8) (m : Nat) : Prop := (sfx = [] ∧ m = n) ∨ (sfx ≠ [] ∧ digs n = (if m = 0 then [] else digs m) ++ sfx)
theorem leftD_step {n m : Nat} {sfx : List UInt8} (h : leftD n sfx m) (hc : sfx = [] ∨ 0 < m) : leftD n (UInt8.ofNat (48 + m % 10) :: sfx) (m / 10) := by
  refine .inr ⟨by simp, ?_⟩
  have key : digs m = (if m / 10 = 0 then [] else digs (m / 10)) ++ [UInt8.ofNat (48 + m % 10)] := by
    by_cases h10 : m < 10
    · rw [digs_small h10, if_pos (by omega), Nat.mod_eq_of_lt h10]; rfl
    · rw [digs_step h10, if_neg (by omega)]
  rcases h with ⟨rfl, rfl⟩ | ⟨h1, h2⟩
  · exact key
  · have hm : m ≠ 0 := by rcases hc with hc | hc; exact absurd hc h1; omega
    rw [h2, if_neg hm, key, List.append_assoc]; rfl
theorem l1Int_ok (h : Heap) (n : Nat) (hn : n ≤ 9223372036854775807) : ACall Tryd.prog 13 [.int .i64 (n : Int)] h fun r h' => Ext h h' ∧ r = .string (bL (digs n)) := by
  refine ACall.of Tryd.func13 s13 (of_decide_eq_true rfl) ?_
  have c0 : decide ((n : Int) < 0) = false := decide_eq_false (by omega)
  simp (maxSteps := 4000000) (disch := omega) only [ah, am, Nat.reduceEqDiff, reduceCtorEq, Nat.reduceAdd, Nat.reduceLeDiff, Nat.reduceMul, Nat.reduceLT, if_true, if_false, true_and, and_true, and_self, Nat.reduceBEq, QOp.loads, boxO, bslO, buildO, cutL, fillV, putL, w13, v13, c0]
  refine ⟨fun t E H => ∃ (m : Nat) (sfx : List UInt8), E = [(0, .int .i64 (m : Int)), (3, .string (bL sfx))] ∧ Ext h H ∧ m ≤ n ∧ leftD n sfx m ∧ t = m + (if sfx = [] then 1 else 0), ⟨n + 1, n, [], rfl, Ext.refl h, Nat.le_refl _, .inl ⟨rfl, rfl⟩, rfl⟩, ?_⟩
  rintro t E H ⟨m, sfx, rfl, e, hm, D, rfl⟩
  have m1 : ((m : Int)).tmod 10 = ((m % 10 : Nat) : Int) := by rw [Int.tmod_eq_emod_of_nonneg (by omega)]; omega
  have d1 : ((m : Int)).tdiv 10 = ((m / 10 : Nat) : Int) := by rw [Int.tdiv_eq_ediv_of_nonneg (by omega)]; omega
  have w1 : IntKind.i64.wrap (48 + (m : Int).tmod 10) = 48 + ((m % 10 : Nat) : Int) := i64e (by rw [m1]) (by omega)
  have w2 : IntKind.i64.wrap ((m : Int).tdiv 10) = ((m / 10 : Nat) : Int) := i64e d1 (by omega)
  have w3 : IntKind.u8.wrap (48 + ((m % 10 : Nat) : Int)) = 48 + ((m % 10 : Nat) : Int) := u8w (by omega)
  have n10 : (10 : Int) ≠ 0 := by omega
  have hB : bytesS [48 + ((m % 10 : Nat) : Int)] = bL [UInt8.ofNat (48 + m % 10)] := by
    rw [bytesS_bL, show (48 + ((m % 10 : Nat) : Int)).toNat = 48 + m % 10 from by omega]
  have hsl : sfx.length ≤ 19 := by
    rcases D with ⟨rfl, _⟩ | ⟨_, D⟩
    · simp
    · have := digs_len19 hn; rw [D, List.length_append] at this; omega
  have A := strB_addL [UInt8.ofNat (48 + m % 10)] sfx (by simp; omega)
  rw [← hB] at A
  have go : (sfx = [] ∨ 0 < m) → ∃ n', (n' < m + if sfx = [] then 1 else 0) ∧ ∃ (m' : Nat) (sfx' : List UInt8), [(0, Value.int .i64 ((m / 10 : Nat) : Int)), (3, .string (bL (UInt8.ofNat (48 + m % 10) :: sfx)))] = [(0, .int .i64 (m' : Int)), (3, .string (bL sfx'))] ∧
      Ext h (H.more [[.int .u8 (48 + ((m % 10 : Nat) : Int))]]) ∧ m' ≤ n ∧ leftD n sfx' m' ∧ n' = m' + (if sfx' = [] then 1 else 0) := by
    intro hc
    refine ⟨_, ?_, m / 10, UInt8.ofNat (48 + m % 10) :: sfx, rfl, e.trans (Ext.more _ _), by omega, leftD_step D hc, rfl⟩
    rw [if_neg (by simp)]
    split
    · omega
    · rename_i hne
      have : 0 < m := by
        rcases hc with hc | hc
        · exact absurd hc hne
        · exact hc
      omega
  by_cases c1 : sfx = []
  · simp (maxSteps := 4000000) (disch := omega) only [ah, am, Nat.reduceEqDiff, reduceCtorEq, Nat.reduceAdd, Nat.reduceLeDiff, Nat.reduceMul, Nat.reduceLT, if_true, if_false, true_and, and_true, and_self, Nat.reduceBEq, QOp.loads, boxO, bslO, buildO, cutL, fillV, putL, w13, v13, strB_nil, decide_eq_true c1, n10, ne_eq, not_false_eq_true, w1, w2, w3, ev_cbs, cbs_one0, A]
    exact go (.inl c1)
  by_cases c2 : 0 < m
  · have c2' : decide ((0 : Int) < (m : Int)) = true := decide_eq_true (by omega)
    simp (maxSteps := 4000000) (disch := omega) only [ah, am, Nat.reduceEqDiff, reduceCtorEq, Nat.reduceAdd, Nat.reduceLeDiff, Nat.reduceMul, Nat.reduceLT, if_true, if_false, true_and, and_true, and_self, Nat.reduceBEq, QOp.loads, boxO, bslO, buildO, cutL, fillV, putL, w13, v13, strB_nil, decide_eq_false c1, c2', n10, ne_eq, not_false_eq_true, w1, w2, w3, ev_cbs, cbs_one0, A]
    exact go (.inr c2)
  · have c2' : decide ((0 : Int) < (m : Int)) = false := decide_eq_false (by omega)
    simp (maxSteps := 4000000) (disch := omega) only [ah, am, Nat.reduceEqDiff, reduceCtorEq, Nat.reduceAdd, Nat.reduceLeDiff, Nat.reduceMul, Nat.reduceLT, if_true, if_false, true_and, and_true, and_self, Nat.reduceBEq, QOp.loads, boxO, bslO, buildO, cutL, fillV, putL, w13, v13, strB_nil, decide_eq_false c1, c2']
    refine ⟨e, ?_⟩
    rcases D with ⟨h1, _⟩ | ⟨_, h2⟩
    · exact absurd h1 c1
    · rw [h2, if_pos (by omega)]; rfl
def padL (k : Nat) (l : List UInt8) : List UInt8 := List.replicate (k - l.length) 48 ++ l
theorem padL_len (k : Nat) (l : List UInt8) : (padL k l).length = max k l.length := by simp [padL]; omega
theorem l1Wide_ok (h : Heap) (n k : Nat) (hn : n ≤ 9223372036854775807) (hk : k ≤ 1000) : ACall Tryd.prog 27 [.int .i64 (n : Int), .int .i64 (k : Int)] h fun r h' => Ext h h' ∧ r = .string (bL (padL k (digs n))) := by
  refine ACall.of Tryd.func27 s27 (of_decide_eq_true rfl) ?_
  simp (maxSteps := 4000000) (disch := omega) only [ah, am, Nat.reduceEqDiff, reduceCtorEq, Nat.reduceAdd, Nat.reduceLeDiff, Nat.reduceMul, Nat.reduceLT, if_true, if_false, true_and, and_true, and_self, Nat.reduceBEq, QOp.loads, boxO, bslO, buildO, cutL, fillV, putL, w27, v27]
  refine stepC.of (l1Int_ok _ n hn) ?_
  rintro _ H1 ⟨e1, rfl⟩
  have hl := digs_len19 hn
  simp (maxSteps := 4000000) (disch := omega) only [ah, am, Nat.reduceEqDiff, reduceCtorEq, Nat.reduceAdd, Nat.reduceLeDiff, Nat.reduceMul, Nat.reduceLT, if_true, if_false, true_and, and_true, and_self, Nat.reduceBEq, QOp.loads, boxO, bslO, buildO, cutL, fillV, putL, w27, v27]
  refine SW_loop_up (fun j E H => H = H1 ∧ E = [(1, .int .i64 (k : Int)), (5, .string (bL (List.replicate j 48 ++ digs n)))]) (k - (digs n).length) 0 (by omega) ⟨rfl, rfl⟩ ?_
  rintro j E H hj ⟨rfl, rfl⟩
  have L := strB_addL [48] (List.replicate j 48 ++ digs n) (by simp; omega)
  have e48 : bL [48] = ⟨#[48]⟩ := rfl
  rw [e48, show [(48 : UInt8)] ++ (List.replicate j 48 ++ digs n) = List.replicate (j + 1) 48 ++ digs n from rfl] at L
  have hsz : (bL (List.replicate j 48 ++ digs n)).size = j + (digs n).length := by rw [bL_size]; simp
  simp (maxSteps := 4000000) (disch := omega) only [ah, am, Nat.reduceEqDiff, reduceCtorEq, Nat.reduceAdd, Nat.reduceLeDiff, Nat.reduceMul, Nat.reduceLT, if_true, if_false, true_and, and_true, and_self, Nat.reduceBEq, QOp.loads, boxO, bslO, buildO, cutL, fillV, putL, w27, v27, hsz]
  refine stepI.split (fun hp => ?_) (fun hp => ?_)
  · simp (maxSteps := 4000000) (disch := omega) only [ah, am, Nat.reduceEqDiff, reduceCtorEq, Nat.reduceAdd, Nat.reduceLeDiff, Nat.reduceMul, Nat.reduceLT, if_true, if_false, true_and, and_true, and_self, Nat.reduceBEq, QOp.loads, boxO, bslO, buildO, cutL, fillV, putL, w27, v27, L]
    omega
  · simp (maxSteps := 4000000) (disch := omega) only [ah, am, Nat.reduceEqDiff, reduceCtorEq, Nat.reduceAdd, Nat.reduceLeDiff, Nat.reduceMul, Nat.reduceLT, if_true, if_false, true_and, and_true, and_self, Nat.reduceBEq, QOp.loads, boxO, bslO, buildO, cutL, fillV, putL, w27, v27]
    refine ⟨e1, ?_⟩
    unfold padL
    rw [show k - (digs n).length = j from by omega]
theorem rep48 : ∀ c : Nat, Go.Lib.repeatL [48] c = List.replicate c 48 := by
  intro c
  induction c with
  | zero => rfl
  | succ c ih => rw [List.replicate_succ, ← ih]; rfl
theorem padded_ok (h : Heap) (n k : Nat) (hn : n ≤ 9223372036854775807) (hk : k ≤ 1000) : ACall Tryd.prog 35 [.int .i64 (n : Int), .int .i64 (k : Int)] h fun r h' => h' = h ∧ r = .string (bL (padL k (digs n))) := by
  refine ACall.of Tryd.func35 s35 (of_decide_eq_true rfl) ?_
  simp (maxSteps := 4000000) (disch := omega) only [ah, am, Nat.reduceEqDiff, reduceCtorEq, Nat.reduceAdd, Nat.reduceLeDiff, Nat.reduceMul, Nat.reduceLT, if_true, if_false, true_and, and_true, and_self, Nat.reduceBEq, QOp.loads, boxO, bslO, buildO, cutL, fillV, putL, w35, v35]
  refine stepC.of (FormatInt_ok h (n : Int) (by omega) (by omega)) ?_
  rintro _ Hx ⟨hx, rfl⟩; rw [hx]; clear hx Hx
  have hl := digs_len19 hn
  have hsz : (itoaB (n : Int)).size = (digs n).length := by rw [itoa_nat, bL_size]
  have w1 : IntKind.i64.wrap ((k : Int) - ((digs n).length : Int)) = (k : Int) - ((digs n).length : Int) := i64e rfl (by omega)
  have mx : (if (k : Int) - ((digs n).length : Int) < 0 then (0 : Int) else (k : Int) - ((digs n).length : Int)) = ((k - (digs n).length : Nat) : Int) := by split <;> omega
  simp (maxSteps := 4000000) (disch := omega) only [ah, am, Nat.reduceEqDiff, reduceCtorEq, Nat.reduceAdd, Nat.reduceLeDiff, Nat.reduceMul, Nat.reduceLT, if_true, if_false, true_and, and_true, and_self, Nat.reduceBEq, QOp.loads, boxO, bslO, buildO, cutL, fillV, putL, w35, v35, hsz, w1, mx]
  have rk := Repeat_ok h ⟨#[48]⟩ (k - (digs n).length) (by omega) (by decide)
  rw [show (⟨#[48]⟩ : ByteArray).data.toList = [48] from rfl, rep48] at rk
  refine stepC.of rk ?_
  rintro _ Hx ⟨hx, rfl⟩; rw [hx]; clear hx Hx
  have A := strB_addL (List.replicate (k - (digs n).length) 48) (digs n) (by simp; omega)
  rw [itoa_nat]
  simp (maxSteps := 4000000) (disch := omega) only [ah, am, Nat.reduceEqDiff, reduceCtorEq, Nat.reduceAdd, Nat.reduceLeDiff, Nat.reduceMul, Nat.reduceLT, if_true, if_false, true_and, and_true, and_self, Nat.reduceBEq, QOp.loads, boxO, bslO, buildO, cutL, fillV, putL, w35, v35, show (⟨(List.replicate (k - (digs n).length) (48 : UInt8)).toArray⟩ : ByteArray) = bL (List.replicate (k - (digs n).length) 48) from rfl, A]
  rfl
theorem l6Digits_ok (h : Heap) (n : Nat) (hn : n ≤ 9223372036854775807) : ACall Tryd.prog 15 [.int .i64 (n : Int)] h fun r h' => Ext h h' ∧ r = .string (bL (padL 3 (digs n))) := by
  refine ACall.of Tryd.func15 s15 (of_decide_eq_true rfl) ?_
  by_cases c : (n : Int) < 1000
  · simp (maxSteps := 4000000) (disch := omega) only [ah, am, Nat.reduceEqDiff, reduceCtorEq, Nat.reduceAdd, Nat.reduceLeDiff, Nat.reduceMul, Nat.reduceLT, if_true, if_false, true_and, and_true, and_self, Nat.reduceBEq, QOp.loads, boxO, bslO, buildO, cutL, fillV, putL, w15, v15, decide_eq_true c]
    refine stepC.of (l1Wide_ok h n 3 hn (by omega)) ?_
    rintro _ H1 ⟨e1, rfl⟩
    simp (maxSteps := 4000000) (disch := omega) only [ah, am, Nat.reduceEqDiff, reduceCtorEq, Nat.reduceAdd, Nat.reduceLeDiff, Nat.reduceMul, Nat.reduceLT, if_true, if_false, true_and, and_true, and_self, Nat.reduceBEq, QOp.loads, boxO, bslO, buildO, cutL, fillV, putL, w15, v15]
    exact e1
  · simp (maxSteps := 4000000) (disch := omega) only [ah, am, Nat.reduceEqDiff, reduceCtorEq, Nat.reduceAdd, Nat.reduceLeDiff, Nat.reduceMul, Nat.reduceLT, if_true, if_false, true_and, and_true, and_self, Nat.reduceBEq, QOp.loads, boxO, bslO, buildO, cutL, fillV, putL, w15, v15, decide_eq_false c]
    refine stepC.of (l1Int_ok h n hn) ?_
    rintro _ H1 ⟨e1, rfl⟩
    simp (maxSteps := 4000000) (disch := omega) only [ah, am, Nat.reduceEqDiff, reduceCtorEq, Nat.reduceAdd, Nat.reduceLeDiff, Nat.reduceMul, Nat.reduceLT, if_true, if_false, true_and, and_true, and_self, Nat.reduceBEq, QOp.loads, boxO, bslO, buildO, cutL, fillV, putL, w15, v15]
    refine ⟨e1, ?_⟩
    have : 3 < (digs n).length := by
      have h1 : ¬ n < 10 := by omega
      have h2 : ¬ n / 10 < 10 := by omega
      have h3 : ¬ n / 10 / 10 < 10 := by omega
      rw [digs_step h1, digs_step h2, digs_step h3]
      have := digs_pos (n / 10 / 10 / 10)
      simp; omega
    unfold padL
    rw [show 3 - (digs n).length = 0 from by omega]; rfl
end Go.Proofs.YtgmimgmdbpcecaaDoor
