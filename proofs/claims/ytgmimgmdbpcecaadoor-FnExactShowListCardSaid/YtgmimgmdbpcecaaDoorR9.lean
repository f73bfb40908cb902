import Derived.Test.YtgmimgmdbpcecaaDoorR8
import Derived.Test.YtgmimgmdbpcecaaDoorAhZ
import Derived.Test.YtgmimgmdbpcecaaDoorM0
namespace Go.Proofs.YtgmimgmdbpcecaaDoor
open Go Go.Ah
set_option linter.unusedSimpArgs false
set_option linter.unusedVariables false
set_option maxRecDepth 10000
set_option maxHeartbeats 4000000
/-! 5 loop.example/g00066/spec.ShowList: parameters 2, live [0, 1], slots [0:r, 1:track, 2:r, 3:track, 5:b, 6:at, 7:list, 8:i, 9:k, 10:src, 11:x, 12:y, 13:u, 14:v] -/
def c5_0 : List SOper := [⟨some 2, .a (.box (.t 0)), none⟩, ⟨some 4, .q (.mv (.c (.string ⟨#[]⟩))), none⟩]
def c5_1 : List SOper := [⟨some 15, .q (.ldn 3 (.t 2)), none⟩, ⟨some 16, .e (.call 10 [(.t 15)]), none⟩, ⟨some 17, .q (.not (.t 16)), none⟩, ⟨some 18, .q (.mv (.t 17)), none⟩, ⟨some 19, .q (.mv (.t 1)), some (18, false)⟩, ⟨some 20, .e (.call 11 [(.t 19)]), some (18, false)⟩, ⟨some 21, .q (.not (.t 20)), some (18, false)⟩, ⟨some 22, .q (.pick (.t 18) (.c (.bool true)) (.t 21)), none⟩]
def c5_2 : List SOper := [⟨some 4, .q (.mv (.c (.string ⟨#[]⟩))), none⟩]
def c5_3 : SCode := .seq (.region c5_2 [4]) .ret
def c5_4 : SCode := .cond (.t 22) c5_3 .skip
def c5_5 : SCode := .seq (.region c5_1 [1, 2, 22]) c5_4
def c5_6 : List SOper := [⟨some 23, .a (.bsl 0 1 [] []), none⟩, ⟨some 5, .q (.mv (.t 23)), none⟩]
def c5_7 : List SOper := [⟨some 6, .q (.mv (.c (.int .i64 0))), none⟩]
def c5_8 : List SOper := [⟨some 24, .q (.mv (.t 1)), none⟩, ⟨some 25, .e (.call 12 [(.t 24)]), none⟩, ⟨some 7, .q (.mv (.t 25)), none⟩]
def c5_9 : List SOper := [⟨some 8, .q (.mv (.c (.int .i64 0))), none⟩]
def c5_10 : List SOper := [⟨some 26, .q (.mv (.t 8)), none⟩, ⟨some 27, .q (.mv (.t 7)), none⟩, ⟨some 28, .q (.len (.t 27)), none⟩, ⟨some 29, .q (.bin .lss (.t 26) (.t 28)), none⟩]
def c5_11 : SCode := .cond (.t 29) .skip (.exit 0)
def c5_12 : SCode := .seq (.region c5_10 [2, 5, 6, 7, 8, 29]) c5_11
def c5_13 : List SOper := [⟨some 32, .q (.mv (.t 7)), none⟩, ⟨some 33, .q (.mv (.t 8)), none⟩, ⟨some 34, .q (.ia 3 (.t 32) (.t 33)), none⟩, ⟨some 35, .q (.ldn 3 (.t 34)), none⟩, ⟨some 9, .a (.new [(.int .i64 0), (.int .i64 0), (.int .i64 0)]), none⟩, ⟨none, .e (.st 3 (.t 9) (.t 35)), none⟩]
def c5_14 : List SOper := [⟨some 10, .q (.mv (.c (.string ⟨#[66, 76]⟩))), none⟩]
def c5_15 : List SOper := [⟨some 36, .q (.fa 0 (.t 9)), none⟩, ⟨some 37, .q (.ld (.t 36)), none⟩, ⟨some 38, .q (.bin .gtr (.t 37) (.c (.int .i64 0))), none⟩]
def c5_16 : List SOper := [⟨some 39, .q (.fa 0 (.t 9)), none⟩, ⟨some 40, .q (.ld (.t 39)), none⟩, ⟨some 41, .e (.call 13 [(.t 40)]), none⟩, ⟨some 42, .q (.bin .add (.c (.string ⟨#[82]⟩)) (.t 41)), none⟩, ⟨some 10, .q (.mv (.t 42)), none⟩]
def c5_17 : SCode := .cond (.t 38) (.region c5_16 [2, 5, 6, 7, 8, 9, 10]) .skip
def c5_18 : SCode := .seq (.region c5_15 [2, 5, 6, 7, 8, 9, 10, 38]) c5_17
def c5_19 : List SOper := [⟨some 43, .q (.ldn 3 (.t 2)), none⟩, ⟨some 44, .q (.fa 1 (.t 9)), none⟩, ⟨some 45, .q (.ld (.t 44)), none⟩, ⟨some 46, .e (.call 14 [(.t 43), (.t 45)]), none⟩, ⟨some 11, .q (.mv (.t 46)), none⟩]
def c5_20 : List SOper := [⟨some 47, .q (.ldn 3 (.t 2)), none⟩, ⟨some 48, .q (.fa 1 (.t 9)), none⟩, ⟨some 49, .q (.ld (.t 48)), none⟩, ⟨some 50, .q (.fa 2 (.t 9)), none⟩, ⟨some 51, .q (.ld (.t 50)), none⟩, ⟨some 52, .q (.bin .add (.t 49) (.t 51)), none⟩, ⟨some 53, .e (.call 14 [(.t 47), (.t 52)]), none⟩, ⟨some 12, .q (.mv (.t 53)), none⟩]
def c5_21 : List SOper := [⟨some 54, .q (.ldn 3 (.t 2)), none⟩, ⟨some 55, .q (.mv (.t 6)), none⟩, ⟨some 56, .e (.call 14 [(.t 54), (.t 55)]), none⟩, ⟨some 13, .q (.mv (.t 56)), none⟩]
def c5_22 : List SOper := [⟨some 57, .q (.ldn 3 (.t 2)), none⟩, ⟨some 58, .q (.mv (.t 6)), none⟩, ⟨some 59, .q (.fa 2 (.t 9)), none⟩, ⟨some 60, .q (.ld (.t 59)), none⟩, ⟨some 61, .q (.bin .add (.t 58) (.t 60)), none⟩, ⟨some 62, .e (.call 14 [(.t 57), (.t 61)]), none⟩, ⟨some 14, .q (.mv (.t 62)), none⟩]
def c5_23 : List SOper := [⟨some 63, .q (.mv (.t 11)), none⟩, ⟨some 64, .q (.bin .eql (.t 63) (.c (.string ⟨#[]⟩))), none⟩, ⟨some 65, .q (.mv (.t 64)), none⟩, ⟨some 66, .q (.mv (.t 12)), some (65, false)⟩, ⟨some 67, .q (.bin .eql (.t 66) (.c (.string ⟨#[]⟩))), some (65, false)⟩, ⟨some 68, .q (.pick (.t 65) (.c (.bool true)) (.t 67)), none⟩, ⟨some 69, .q (.mv (.t 68)), none⟩, ⟨some 70, .q (.mv (.t 13)), some (69, false)⟩, ⟨some 71, .q (.bin .eql (.t 70) (.c (.string ⟨#[]⟩))), some (69, false)⟩, ⟨some 72, .q (.pick (.t 69) (.c (.bool true)) (.t 71)), none⟩, ⟨some 73, .q (.mv (.t 72)), none⟩, ⟨some 74, .q (.mv (.t 14)), some (73, false)⟩, ⟨some 75, .q (.bin .eql (.t 74) (.c (.string ⟨#[]⟩))), some (73, false)⟩, ⟨some 76, .q (.pick (.t 73) (.c (.bool true)) (.t 75)), none⟩]
def c5_24 : List SOper := [⟨some 4, .q (.mv (.c (.string ⟨#[]⟩))), none⟩]
def c5_25 : SCode := .seq (.region c5_24 [4]) .ret
def c5_26 : SCode := .cond (.t 76) c5_25 .skip
def c5_27 : SCode := .seq (.region c5_23 [2, 5, 6, 7, 8, 9, 10, 11, 12, 13, 14, 76]) c5_26
def c5_28 : List SOper := [⟨some 77, .q (.mv (.t 5)), none⟩, ⟨some 78, .q (.mv (.t 8)), none⟩, ⟨some 79, .q (.bin .add (.t 78) (.c (.int .i64 1))), none⟩, ⟨some 80, .e (.call 15 [(.t 79)]), none⟩, ⟨some 81, .q (.bin .add (.t 80) (.c (.string ⟨#[32]⟩))), none⟩, ⟨some 82, .q (.mv (.t 10)), none⟩, ⟨some 83, .q (.bin .add (.t 81) (.t 82)), none⟩, ⟨some 84, .q (.bin .add (.t 83) (.c (.string ⟨#[32, 67, 32]⟩))), none⟩, ⟨some 85, .q (.mv (.t 11)), none⟩, ⟨some 86, .q (.bin .add (.t 84) (.t 85)), none⟩, ⟨some 87, .q (.bin .add (.t 86) (.c (.string ⟨#[32]⟩))), none⟩, ⟨some 88, .q (.mv (.t 12)), none⟩, ⟨some 89, .q (.bin .add (.t 87) (.t 88)), none⟩, ⟨some 90, .q (.bin .add (.t 89) (.c (.string ⟨#[32]⟩))), none⟩, ⟨some 91, .q (.mv (.t 13)), none⟩, ⟨some 92, .q (.bin .add (.t 90) (.t 91)), none⟩, ⟨some 93, .q (.bin .add (.t 92) (.c (.string ⟨#[32]⟩))), none⟩, ⟨some 94, .q (.mv (.t 14)), none⟩, ⟨some 95, .q (.bin .add (.t 93) (.t 94)), none⟩, ⟨some 96, .q (.bin .add (.t 95) (.c (.string ⟨#[10]⟩))), none⟩, ⟨some 97, .e (.app 1 1 (.t 77) (.t 96)), none⟩, ⟨some 5, .q (.mv (.t 97)), none⟩]
def c5_29 : List SOper := [⟨some 98, .q (.mv (.t 6)), none⟩, ⟨some 99, .q (.fa 2 (.t 9)), none⟩, ⟨some 100, .q (.ld (.t 99)), none⟩, ⟨some 101, .q (.bin .add (.t 98) (.t 100)), none⟩, ⟨some 6, .q (.mv (.t 101)), none⟩]
def c5_30 : SCode := .seq (.region c5_28 [2, 5, 6, 7, 8, 9]) (.region c5_29 [2, 5, 6, 7, 8])
def c5_31 : SCode := .seq c5_27 c5_30
def c5_32 : SCode := .seq (.region c5_22 [2, 5, 6, 7, 8, 9, 10, 11, 12, 13, 14]) c5_31
def c5_33 : SCode := .seq (.region c5_21 [2, 5, 6, 7, 8, 9, 10, 11, 12, 13]) c5_32
def c5_34 : SCode := .seq (.region c5_20 [2, 5, 6, 7, 8, 9, 10, 11, 12]) c5_33
def c5_35 : SCode := .seq (.region c5_19 [2, 5, 6, 7, 8, 9, 10, 11]) c5_34
def c5_36 : SCode := .seq c5_18 c5_35
def c5_37 : SCode := .seq (.region c5_14 [2, 5, 6, 7, 8, 9, 10]) c5_36
def c5_38 : SCode := .seq (.region c5_13 [2, 5, 6, 7, 8, 9]) c5_37
def c5_39 : SCode := .block 1 c5_38
def c5_40 : List SOper := [⟨some 30, .q (.mv (.t 8)), none⟩, ⟨some 31, .q (.bin .add (.t 30) (.c (.int .i64 1))), none⟩, ⟨some 8, .q (.mv (.t 31)), none⟩]
def c5_41 : SCode := .seq c5_39 (.region c5_40 [2, 5, 6, 7, 8])
def c5_42 : SCode := .seq c5_12 c5_41
def c5_43 : SCode := .loop c5_42
def c5_44 : SCode := .block 0 c5_43
def c5_45 : SCode := .seq (.region c5_9 [2, 5, 6, 7, 8]) c5_44
def c5_46 : List SOper := [⟨some 102, .q (.mv (.t 5)), none⟩, ⟨some 103, .q (.cbs (.t 102)), none⟩, ⟨some 4, .q (.mv (.t 103)), none⟩]
def c5_47 : SCode := .seq (.region c5_46 [4]) .ret
def c5_48 : SCode := .seq c5_45 c5_47
def c5_49 : SCode := .seq (.region c5_8 [2, 5, 6, 7]) c5_48
def c5_50 : SCode := .seq (.region c5_7 [1, 2, 5, 6]) c5_49
def c5_51 : SCode := .seq (.region c5_6 [1, 2, 5]) c5_50
def c5_52 : SCode := .seq c5_5 c5_51
def c5_53 : SCode := .seq (.region c5_0 [1, 2]) c5_52
def c5 : SCode := c5_53
theorem w5 : type_of% (And.intro (uR Tryd.prog c5_0.eq_1) (And.intro (uR Tryd.prog c5_1.eq_1) (And.intro (uR Tryd.prog c5_2.eq_1) (And.intro (uC Tryd.prog c5_3.eq_1) (And.intro (uC Tryd.prog c5_4.eq_1) (And.intro (uC Tryd.prog c5_5.eq_1) (And.intro (uR Tryd.prog c5_6.eq_1) (And.intro (uR Tryd.prog c5_7.eq_1) (And.intro (uR Tryd.prog c5_8.eq_1) (And.intro (uR Tryd.prog c5_9.eq_1) (And.intro (uR Tryd.prog c5_10.eq_1) (And.intro (uC Tryd.prog c5_11.eq_1) (And.intro (uC Tryd.prog c5_12.eq_1) (And.intro (uR Tryd.prog c5_13.eq_1) (And.intro (uR Tryd.prog c5_14.eq_1) (And.intro (uR Tryd.prog c5_15.eq_1) (And.intro (uR Tryd.prog c5_16.eq_1) (And.intro (uC Tryd.prog c5_17.eq_1) (And.intro (uC Tryd.prog c5_18.eq_1) (And.intro (uR Tryd.prog c5_19.eq_1) (And.intro (uR Tryd.prog c5_20.eq_1) (And.intro (uR Tryd.prog c5_21.eq_1) (And.intro (uR Tryd.prog c5_22.eq_1) (And.intro (uR Tryd.prog c5_23.eq_1) (And.intro (uR Tryd.prog c5_24.eq_1) (And.intro (uC Tryd.prog c5_25.eq_1) (And.intro (uC Tryd.prog c5_26.eq_1) (And.intro (uC Tryd.prog c5_27.eq_1) (And.intro (uR Tryd.prog c5_28.eq_1) (And.intro (uR Tryd.prog c5_29.eq_1) (And.intro (uC Tryd.prog c5_30.eq_1) (And.intro (uC Tryd.prog c5_31.eq_1) (And.intro (uC Tryd.prog c5_32.eq_1) (And.intro (uC Tryd.prog c5_33.eq_1) (And.intro (uC Tryd.prog c5_34.eq_1) (And.intro (uC Tryd.prog c5_35.eq_1) (And.intro (uC Tryd.prog c5_36.eq_1) (And.intro (uC Tryd.prog c5_37.eq_1) (And.intro (uC Tryd.prog c5_38.eq_1) (And.intro (uC Tryd.prog c5_39.eq_1) (And.intro (uR Tryd.prog c5_40.eq_1) (And.intro (uC Tryd.prog c5_41.eq_1) (And.intro (uC Tryd.prog c5_42.eq_1) (And.intro (uC Tryd.prog c5_43.eq_1) (And.intro (uC Tryd.prog c5_44.eq_1) (And.intro (uC Tryd.prog c5_45.eq_1) (And.intro (uR Tryd.prog c5_46.eq_1) (And.intro (uC Tryd.prog c5_47.eq_1) (And.intro (uC Tryd.prog c5_48.eq_1) (And.intro (uC Tryd.prog c5_49.eq_1) (And.intro (uC Tryd.prog c5_50.eq_1) (And.intro (uC Tryd.prog c5_51.eq_1) (And.intro (uC Tryd.prog c5_52.eq_1) (And.intro (uC Tryd.prog c5_53.eq_1) (uC Tryd.prog c5.eq_1))))))))))))))))))))))))))))))))))))))))))))))))))))))) := (And.intro (uR Tryd.prog c5_0.eq_1) (And.intro (uR Tryd.prog c5_1.eq_1) (And.intro (uR Tryd.prog c5_2.eq_1) (And.intro (uC Tryd.prog c5_3.eq_1) (And.intro (uC Tryd.prog c5_4.eq_1) (And.intro (uC Tryd.prog c5_5.eq_1) (And.intro (uR Tryd.prog c5_6.eq_1) (And.intro (uR Tryd.prog c5_7.eq_1) (And.intro (uR Tryd.prog c5_8.eq_1) (And.intro (uR Tryd.prog c5_9.eq_1) (And.intro (uR Tryd.prog c5_10.eq_1) (And.intro (uC Tryd.prog c5_11.eq_1) (And.intro (uC Tryd.prog c5_12.eq_1) (And.intro (uR Tryd.prog c5_13.eq_1) (And.intro (uR Tryd.prog c5_14.eq_1) (And.intro (uR Tryd.prog c5_15.eq_1) (And.intro (uR Tryd.prog c5_16.eq_1) (And.intro (uC Tryd.prog c5_17.eq_1) (And.intro (uC Tryd.prog c5_18.eq_1) (And.intro (uR Tryd.prog c5_19.eq_1) (And.intro (uR Tryd.prog c5_20.eq_1) (And.intro (uR Tryd.prog c5_21.eq_1) (And.intro (uR Tryd.prog c5_22.eq_1) (And.intro (uR Tryd.prog c5_23.eq_1) (And.intro (uR Tryd.prog c5_24.eq_1) (And.intro (uC Tryd.prog c5_25.eq_1) (And.intro (uC Tryd.prog c5_26.eq_1) (And.intro (uC Tryd.prog c5_27.eq_1) (And.intro (uR Tryd.prog c5_28.eq_1) (And.intro (uR Tryd.prog c5_29.eq_1) (And.intro (uC Tryd.prog c5_30.eq_1) (And.intro (uC Tryd.prog c5_31.eq_1) (And.intro (uC Tryd.prog c5_32.eq_1) (And.intro (uC Tryd.prog c5_33.eq_1) (And.intro (uC Tryd.prog c5_34.eq_1) (And.intro (uC Tryd.prog c5_35.eq_1) (And.intro (uC Tryd.prog c5_36.eq_1) (And.intro (uC Tryd.prog c5_37.eq_1) (And.intro (uC Tryd.prog c5_38.eq_1) (And.intro (uC Tryd.prog c5_39.eq_1) (And.intro (uR Tryd.prog c5_40.eq_1) (And.intro (uC Tryd.prog c5_41.eq_1) (And.intro (uC Tryd.prog c5_42.eq_1) (And.intro (uC Tryd.prog c5_43.eq_1) (And.intro (uC Tryd.prog c5_44.eq_1) (And.intro (uC Tryd.prog c5_45.eq_1) (And.intro (uR Tryd.prog c5_46.eq_1) (And.intro (uC Tryd.prog c5_47.eq_1) (And.intro (uC Tryd.prog c5_48.eq_1) (And.intro (uC Tryd.prog c5_49.eq_1) (And.intro (uC Tryd.prog c5_50.eq_1) (And.intro (uC Tryd.prog c5_51.eq_1) (And.intro (uC Tryd.prog c5_52.eq_1) (And.intro (uC Tryd.prog c5_53.eq_1) (uC Tryd.prog c5.eq_1)))))))))))))))))))))))))))))))))))))))))))))))))))))))
def v5 : List RV := [.t 4]
theorem s5 : slimF Tryd.prog Tryd.f5 = some (c5.bare, v5) := by kernel_rfl

/-! ### Bytes -/
def encU (b : UInt8) : List Value := [.int .u8 (b.toNat : Int)]
theorem encU_len (b : UInt8) : (encU b).length = 1 := rfl
theorem flatU (l : List UInt8) : l.flatMap encU = l.map fun b => Value.int .u8 (b.toNat : Int) := by
  induction l with
  | nil => rfl
  | cons b l ih => rw [List.flatMap_cons, ih]; rfl
theorem srcW_str (h : Heap) (l : List UInt8) : srcW h 1 (.string (bL l)) = some (l.flatMap encU, l.length) := by
  rw [flatU]
  simp only [srcW, if_true, bL_size]
  rfl
theorem freshAppS {h h' : Heap} {v : Value} {l : List UInt8} (o : Fresh h h' encU 1 v l) (m : List UInt8) (hr : l.length + m.length ≤ 70368744177664) :
    ∃ v' h2, appV h' 1 1 v (.string (bL m)) = some (v', h2) ∧ Fresh h h2 encU 1 v' (l ++ m) := by
  obtain ⟨e0, g, hg, o⟩ := o
  obtain ⟨v', h2, g', e, O, G, hg', _⟩ := o.own.app (y := .string (bL m)) (bytes := 1) (srcW_str h' m) (by rw [flat_len encU_len]) (by rw [o.slt.slLen]; omega)
  exact ⟨v', h2, e, G.ext e0 hg, g', by have := e0.1; omega, ⟨by rw [List.flatMap_append]; exact O, encU_len, by omega⟩⟩
theorem bytesV_map (l : List UInt8) : bytesV (l.map fun b => Value.int .u8 (b.toNat : Int)) = some (l.map fun b => (b.toNat : Int)) := by
  induction l with
  | nil => rfl
  | cons b l ih => rw [List.map_cons, bytesV, ih]; rfl
theorem bytesS_map (l : List UInt8) : bytesS (l.map fun b => (b.toNat : Int)) = bL l := by
  have key : ∀ (l : List UInt8) (a : List UInt8), (l.map fun b => (b.toNat : Int)).foldl (fun r n => r.push (UInt8.ofNat n.toNat)) (bL a) = bL (a ++ l) := by
    intro l
    induction l with
    | nil => intro a; simp
    | cons b l ih =>
      intro a
      rw [List.map_cons, List.foldl_cons]
      have : (bL a).push (UInt8.ofNat ((b.toNat : Int)).toNat) = bL (a ++ [b]) := by
        apply bytes_inj
        simp [bL, ByteArray.push]
      rw [this, ih]; simp
  exact key l []
theorem cbs_own {h h' : Heap} {v : Value} {l : List UInt8} (o : Fresh h h' encU 1 v l) : cbsV h' v = some (.string (bL l)) := by
  obtain ⟨e0, g, hg, o⟩ := o
  rcases o.own with ⟨rfl, h2⟩ | ⟨i, p, n, ob, rfl, h2, h3, h4, h5, _⟩
  · have : l = [] := by
      cases l with
      | nil => rfl
      | cons b l => simp [encU] at h2
    subst this; rfl
  · have hr : rdn h' i p n = some (l.map fun b => Value.int .u8 (b.toNat : Int)) := by
      rw [← flatU, ← h5]
      unfold rdn
      rw [h2]
      simp only [Nat.mul_one] at h4 h5 ⊢
      rw [if_pos ⟨h3, h4⟩]
    simp only [cbsV, hr, Option.bind_some, bytesV_map, Option.map_some, bytesS_map]
theorem twBox {β : Type} {a b : Nat} {h0 h : Heap} {v : Value} {l : List UInt8} {enc' : β → List Value} {sz' : Nat} {u : Value} {m : List β} (t : Tw a b h0 h encU 1 v l [] enc' sz' u m) (cs : List Value) :
    Tw a b h0 (h.more [cs]) encU 1 v l [(h.size, cs)] enc' sz' u m := by
  have e := Ext.more h [cs]
  have hsz : (h.more [cs]).size = h.size + 1 := size_more _ _
  have B := Bx.new h cs []
  have hle := t.le
  have h0s := t.ext.1
  refine ⟨t.ext.trans e, Nat.le_trans t.le e.1, ?_, fun p hp => ?_, t.mine.ext e⟩
  · obtain ⟨g, g1, g2, g3, g4⟩ := t.own
    rcases g3.own with ⟨rfl, h2⟩ | ⟨i, off, n, ob, rfl, h2, h3⟩
    · refine ⟨h.size + 1, by omega, .inr (by omega), ⟨.inl ⟨rfl, h2⟩, encU_len, by omega⟩, fun p hp => ?_⟩
      rw [List.mem_singleton] at hp; rw [hp]; simp
    · have := Heap.get_lt h2; have := Heap.grp_le h2
      have hg : ob.grp = g := h3.2.2.2.2
      refine ⟨g, g1, g2, g3.ext e, fun p hp => ?_⟩
      rw [List.mem_singleton] at hp; rw [hp]; simp only; omega
  · rw [List.mem_singleton] at hp; rw [hp]
    exact ⟨h0s, B⟩
theorem twDrop {β : Type} {a b : Nat} {h0 h : Heap} {v : Value} {l : List UInt8} {B : List (Nat × List Value)} {enc' : β → List Value} {sz' : Nat} {u : Value} {m : List β} (t : Tw a b h0 h encU 1 v l B enc' sz' u m) :
    Tw a b h0 h encU 1 v l [] enc' sz' u m := by
  obtain ⟨g, g1, g2, g3, g4⟩ := t.own
  exact ⟨t.ext, t.le, ⟨g, g1, g2, g3, fun p hp => (by cases hp)⟩, fun p hp => (by cases hp), t.mine⟩
theorem twAppS {β : Type} {a b : Nat} {h0 h : Heap} {v : Value} {l : List UInt8} {B : List (Nat × List Value)} {enc' : β → List Value} {sz' : Nat} {u : Value} {m : List β} (t : Tw a b h0 h encU 1 v l B enc' sz' u m) (M : List UInt8) (hr : l.length + M.length ≤ 70368744177664) :
    ∃ v' h2, appV h 1 1 v (.string (bL M)) = some (v', h2) ∧ Tw a b h0 h2 encU 1 v' (l ++ M) B enc' sz' u m := by
  have key : ∃ g, h0.size ≤ g ∧ (g < a ∨ b ≤ g) ∧ (g < h.size ∨ g = h.size) ∧ OwnT g h encU 1 v l ∧ ∀ p, p ∈ B → p.1 ≠ g := by
    obtain ⟨g, g1, g2, g3, g4⟩ := t.own
    rcases g3.own with ⟨rfl, h2⟩ | ⟨i, off, n, ob, rfl, h2, h3⟩
    · refine ⟨h.size, t.ext.1, .inr t.le, .inr rfl, ⟨.inl ⟨rfl, h2⟩, encU_len, by omega⟩, fun p hp => ?_⟩
      have := Heap.get_lt (t.box p hp).2; omega
    · have := Heap.get_lt h2; have := Heap.grp_le h2
      have : ob.grp = g := h3.2.2.2.2
      exact ⟨g, g1, g2, .inl (by omega), g3, g4⟩
  obtain ⟨g, g1, g2, g5, g3, g4⟩ := key
  obtain ⟨v', h2, g', e, O, G, hg', _⟩ := g3.own.app (y := .string (bL M)) (bytes := 1) (srcW_str h M) (by rw [flat_len encU_len]) (by rw [g3.slt.slLen]; omega)
  have hsz := t.ext.1
  have hle := t.le
  refine ⟨v', h2, e, G.ext t.ext g1, Nat.le_trans hle G.1, ⟨g', by omega, by omega, ⟨by rw [List.flatMap_append]; exact O, encU_len, by omega⟩, fun p hp => ?_⟩, fun p hp => ⟨(t.box p hp).1, G.2 _ _ (t.box p hp).2 (g4 p hp)⟩,
    t.mine.chg (G.chg (Nat.le_refl g) (Nat.lt_succ_self g)) (by omega)⟩
  have h5 := Heap.get_lt (t.box p hp).2
  rcases hg' with rfl | rfl
  · exact g4 p hp
  · omega
theorem specShowList_ok (h : Heap) (v : Value) (r : Rate) (l : List Clip) (s : SlT h encClip 3 v l) (hl : l.length ≤ 1100000) :
    ACall Tryd.prog 5 [.agg (encRate r).toArray, v] h fun x h' => Ext h h' ∧ x = .string (bL (showL r l)) := by
  have B := Bx.new h (encRate r) []
  have eM := Ext.more h [encRate r]
  have rk := specRateOk_ok (h.more [encRate r]) r
  simp only [encRate] at B eM rk
  refine ACall.of Tryd.func5 s5 (of_decide_eq_true rfl) ?_
  simp (maxSteps := 4000000) (disch := omega) only [ah, am, Nat.reduceEqDiff, reduceCtorEq, Nat.reduceAdd, Nat.reduceLeDiff, Nat.reduceMul, Nat.reduceLT, if_true, if_false, true_and, and_true, and_self, Nat.reduceBEq, QOp.loads, boxO, bslO, buildO, cutL, fillV, putL, w5, v5, encRate, B.ld]
  refine stepC.of rk ?_
  rintro _ H1 ⟨e1, rfl⟩
  have E1 := eM.trans e1
  by_cases hr : rateOk r
  rotate_left
  · simp (maxSteps := 4000000) (disch := omega) only [ah, am, Nat.reduceEqDiff, reduceCtorEq, Nat.reduceAdd, Nat.reduceLeDiff, Nat.reduceMul, Nat.reduceLT, if_true, if_false, true_and, and_true, and_self, Nat.reduceBEq, QOp.loads, boxO, bslO, buildO, cutL, fillV, putL, w5, v5, decide_eq_false hr]
    exact ⟨E1, by rw [showL_bad fun q => hr q.1]; rfl⟩
  simp (maxSteps := 4000000) (disch := omega) only [ah, am, Nat.reduceEqDiff, reduceCtorEq, Nat.reduceAdd, Nat.reduceLeDiff, Nat.reduceMul, Nat.reduceLT, if_true, if_false, true_and, and_true, and_self, Nat.reduceBEq, QOp.loads, boxO, bslO, buildO, cutL, fillV, putL, w5, v5, decide_eq_true hr]
  refine stepC.of (TrackOk_ok H1 v l (s.ext E1) (by omega)) ?_
  rintro _ H2 ⟨e2, rfl⟩
  have E2 := E1.trans e2
  by_cases ht : trackOk l
  rotate_left
  · simp (maxSteps := 4000000) (disch := omega) only [ah, am, Nat.reduceEqDiff, reduceCtorEq, Nat.reduceAdd, Nat.reduceLeDiff, Nat.reduceMul, Nat.reduceLT, if_true, if_false, true_and, and_true, and_self, Nat.reduceBEq, QOp.loads, boxO, bslO, buildO, cutL, fillV, putL, w5, v5, decide_eq_false ht]
    exact ⟨E2, by rw [showL_bad fun q => ht q.2]; rfl⟩
  have OK : rateOk r ∧ trackOk l := ⟨hr, ht⟩
  have hck : ∀ k ∈ l, clipOk k := ht.2.1
  have hjl := join_length l
  have hl300 : l.length ≤ 300 := ht.1
  have hjs : ∀ a ∈ join l, 0 ≤ a.src ∧ a.src ≤ 500 := join_src fun k hk => by have := hck k hk; unfold clipOk at this; omega
  simp (maxSteps := 4000000) (disch := omega) only [ah, am, Nat.reduceEqDiff, reduceCtorEq, Nat.reduceAdd, Nat.reduceLeDiff, Nat.reduceMul, Nat.reduceLT, if_true, if_false, true_and, and_true, and_self, Nat.reduceBEq, QOp.loads, boxO, bslO, buildO, cutL, fillV, putL, w5, v5, decide_eq_true ht]
  have F0 := Fresh.new0 (enc := encU) (sz := 1) H2 encU_len (by omega)
  refine stepC.of (l4Join_ok (H2.more [[]]) v l (s.ext (E2.trans F0.1)) hl fun k hk => (hck k hk).in) ?_
  intro jv H3 F3
  have T0 := Tw.of (Fk.of (X := []) F0) F3
  have B2 := (B.ext e1).ext e2
  generalize hJ : join l = J at T0 hjs hjl
  obtain ⟨a0, ha0⟩ : ∃ a, a = (H2.more [[]]).size := ⟨_, rfl⟩
  obtain ⟨b0, hb0⟩ : ∃ b, b = H3.size := ⟨_, rfl⟩
  rw [← ha0, ← hb0] at T0
  simp (maxSteps := 4000000) (disch := omega) only [ah, am, Nat.reduceEqDiff, reduceCtorEq, Nat.reduceAdd, Nat.reduceLeDiff, Nat.reduceMul, Nat.reduceLT, if_true, if_false, true_and, and_true, and_self, Nat.reduceBEq, QOp.loads, boxO, bslO, buildO, cutL, fillV, putL, w5, v5]
  refine SW_loop_up (fun i E K => ∃ w, Tw a0 b0 H2 K encU 1 w (outN r J i) [] encClip 3 jv J ∧ (∀ j, j < i → lnN r J j ≠ []) ∧ E = [(2, .pointer (some ⟨h.size, 0, none⟩)), (5, w), (6, .int .i64 (atN J i)), (7, jv), (8, .int .i64 (i : Int))]) J.length 0 (by omega) ⟨_, T0, fun j hj => by omega, rfl⟩ ?_
  clear T0 F3 F0 ha0 hb0
  rintro i E K hi ⟨w, T, A, rfl⟩
  have wi : IntKind.i64.wrap ((i : Int) + 1) = ((i + 1 : Nat) : Int) := i64e (by omega) (by omega)
  have RK := T.mine.slt.rulesN
  simp (maxSteps := 4000000) (disch := omega) only [ah, am, Nat.reduceEqDiff, reduceCtorEq, Nat.reduceAdd, Nat.reduceLeDiff, Nat.reduceMul, Nat.reduceLT, if_true, if_false, true_and, and_true, and_self, Nat.reduceBEq, QOp.loads, boxO, bslO, buildO, cutL, fillV, putL, w5, v5, RK.1]
  refine stepI.split (fun hp => ?_) (fun hp => ?_)
  rotate_left
  · have hii : i = J.length := by omega
    subst hii
    have CB := cbs_own T.fk.fresh
    simp (maxSteps := 4000000) (disch := omega) only [ah, am, Nat.reduceEqDiff, reduceCtorEq, Nat.reduceAdd, Nat.reduceLeDiff, Nat.reduceMul, Nat.reduceLT, if_true, if_false, true_and, and_true, and_self, Nat.reduceBEq, QOp.loads, boxO, bslO, buildO, cutL, fillV, putL, w5, v5, ev_cbs, CB]
    refine ⟨E2.trans T.ext, ?_⟩
    rw [showL_some OK (by rw [hJ]; exact A), hJ]
  have hi2 : i < J.length := by omega
  have IA := RK.2.1 .i64 i hi2
  have LN : ldnV K 3 (ptrAt jv (i * 3)) = some (.agg (encClip J[i]).toArray) := RK.2.2.2.2.2 i hi2
  have hsrc := hjs _ (List.getElem_mem hi2)
  have eN := Ext.more K [[.int .i64 J[i].src, .int .i64 J[i].inn, .int .i64 J[i].len]]
  have BN := Bx.new K [.int .i64 J[i].src, .int .i64 J[i].inn, .int .i64 J[i].len] []
  have TN := twBox T [.int .i64 J[i].src, .int .i64 J[i].inn, .int .i64 J[i].len]
  generalize hc : J[i] = c at *
  have hln : lnN r J i = lineL r i c (atN J i) := by rw [lnN_eq hi2, hc]
  simp (maxSteps := 4000000) (disch := omega) only [ah, am, Nat.reduceEqDiff, reduceCtorEq, Nat.reduceAdd, Nat.reduceLeDiff, Nat.reduceMul, Nat.reduceLT, if_true, if_false, true_and, and_true, and_self, Nat.reduceBEq, QOp.loads, boxO, bslO, buildO, cutL, fillV, putL, w5, v5, IA, LN, encClip]
  obtain ⟨K1, hK1⟩ : ∃ K1, K1 = K.more [[.int .i64 c.src, .int .i64 c.inn, .int .i64 c.len]] := ⟨_, rfl⟩
  rw [← hK1] at eN BN TN ⊢
  refine SW_if (fun E K' => Ext K1 K' ∧ ∃ R, E = (2, .pointer (some ⟨h.size, 0, none⟩)) :: (5, w) :: (6, .int .i64 (atN J i)) :: (7, jv) :: (8, .int .i64 (i : Int)) :: (9, .pointer (some ⟨K.size, 0, none⟩)) :: (10, .string (bL (namedL c))) :: R) (fun hb => ?_) (fun hb => ?_) ?_
  · have c0 : 0 < c.src := of_decide_eq_true hb
    have lk := l1Int_ok K1 c.src.toNat (by omega)
    rw [show ((c.src.toNat : Nat) : Int) = c.src from by omega] at lk
    simp (maxSteps := 4000000) (disch := omega) only [ah, am, Nat.reduceEqDiff, reduceCtorEq, Nat.reduceAdd, Nat.reduceLeDiff, Nat.reduceMul, Nat.reduceLT, if_true, if_false, true_and, and_true, and_self, Nat.reduceBEq, QOp.loads, boxO, bslO, buildO, cutL, fillV, putL, w5, v5, BN.ld]
    refine stepC.of lk ?_
    rintro _ K2 ⟨e, rfl⟩
    have hl := digs_len19 (n := c.src.toNat) (by omega)
    have A2 : strB .add ⟨#[82]⟩ (bL (digs c.src.toNat)) = some (.string (bL (82 :: digs c.src.toNat))) := strB_addL [82] (digs c.src.toNat) (by simp; omega)
    have en : namedL c = 82 :: digs c.src.toNat := if_neg (by omega)
    rw [en]
    simp (maxSteps := 4000000) (disch := omega) only [ah, am, Nat.reduceEqDiff, reduceCtorEq, Nat.reduceAdd, Nat.reduceLeDiff, Nat.reduceMul, Nat.reduceLT, if_true, if_false, true_and, and_true, and_self, Nat.reduceBEq, QOp.loads, boxO, bslO, buildO, cutL, fillV, putL, w5, v5, A2]
    exact ⟨e, _, rfl⟩
  · have c0 : ¬ 0 < c.src := of_decide_eq_false hb
    have en : namedL c = [66, 76] := if_pos (by omega)
    rw [en]
    exact ⟨Ext.refl _, _, rfl⟩
  rintro E K2 ⟨e2', R, rfl⟩
  have B0 : ∀ {K' : Heap}, Ext K1 K' → Bx K' h.size [.int .i64 r.num, .int .i64 r.den, .bool r.drop] := fun e => (B2.ext TN.ext).ext e
  have tk := fun K f => specTimeText_ok K r f
  simp only [encRate] at tk
  obtain ⟨x, hx⟩ : ∃ x, x = timeL r c.inn := ⟨_, rfl⟩
  obtain ⟨y, hy⟩ : ∃ y, y = timeL r (IntKind.i64.wrap (c.inn + c.len)) := ⟨_, rfl⟩
  obtain ⟨u, hu⟩ : ∃ u, u = timeL r (atN J i) := ⟨_, rfl⟩
  obtain ⟨z, hz⟩ : ∃ z, z = timeL r (IntKind.i64.wrap (atN J i + c.len)) := ⟨_, rfl⟩
  have lx := timeL_len r c.inn
  have ly := timeL_len r (IntKind.i64.wrap (c.inn + c.len))
  have lu := timeL_len r (atN J i)
  have lz := timeL_len r (IntKind.i64.wrap (atN J i + c.len))
  have hLine : lineL r i c (atN J i) = if x = [] ∨ y = [] ∨ u = [] ∨ z = [] then [] else
    padL 3 (digs (i + 1)) ++ [32] ++ namedL c ++ [32, 67, 32] ++ x ++ [32] ++ y ++ [32] ++ u ++ [32] ++ z ++ [10] := by rw [hx, hy, hu, hz]; rfl
  have t1 := fun K => tk K c.inn
  have t2 := fun K => tk K (IntKind.i64.wrap (c.inn + c.len))
  have t3 := fun K => tk K (atN J i)
  have t4 := fun K => tk K (IntKind.i64.wrap (atN J i + c.len))
  simp only [← hx] at t1 lx
  simp only [← hy] at t2 ly
  simp only [← hu] at t3 lu
  simp only [← hz] at t4 lz
  clear hx hy hu hz tk
  simp (maxSteps := 4000000) (disch := omega) only [ah, am, Nat.reduceEqDiff, reduceCtorEq, Nat.reduceAdd, Nat.reduceLeDiff, Nat.reduceMul, Nat.reduceLT, if_true, if_false, true_and, and_true, and_self, Nat.reduceBEq, QOp.loads, boxO, bslO, buildO, cutL, fillV, putL, w5, v5, (B0 e2').ld, (BN.ext e2').ld]
  refine stepC.of (t1 K2) ?_
  rintro _ K3 ⟨e3, rfl⟩
  have X3 := e2'.trans e3
  simp (maxSteps := 4000000) (disch := omega) only [ah, am, Nat.reduceEqDiff, reduceCtorEq, Nat.reduceAdd, Nat.reduceLeDiff, Nat.reduceMul, Nat.reduceLT, if_true, if_false, true_and, and_true, and_self, Nat.reduceBEq, QOp.loads, boxO, bslO, buildO, cutL, fillV, putL, w5, v5, (B0 X3).ld, (BN.ext X3).ld]
  refine stepC.of (t2 K3) ?_
  rintro _ K4 ⟨e4, rfl⟩
  have X4 := X3.trans e4
  simp (maxSteps := 4000000) (disch := omega) only [ah, am, Nat.reduceEqDiff, reduceCtorEq, Nat.reduceAdd, Nat.reduceLeDiff, Nat.reduceMul, Nat.reduceLT, if_true, if_false, true_and, and_true, and_self, Nat.reduceBEq, QOp.loads, boxO, bslO, buildO, cutL, fillV, putL, w5, v5, (B0 X4).ld, (BN.ext X4).ld]
  refine stepC.of (t3 K4) ?_
  rintro _ K5 ⟨e5, rfl⟩
  have X5 := X4.trans e5
  simp (maxSteps := 4000000) (disch := omega) only [ah, am, Nat.reduceEqDiff, reduceCtorEq, Nat.reduceAdd, Nat.reduceLeDiff, Nat.reduceMul, Nat.reduceLT, if_true, if_false, true_and, and_true, and_self, Nat.reduceBEq, QOp.loads, boxO, bslO, buildO, cutL, fillV, putL, w5, v5, (B0 X5).ld, (BN.ext X5).ld]
  refine stepC.of (t4 K5) ?_
  rintro _ K6 ⟨e6, rfl⟩
  have X6 := X5.trans e6
  have T6 := TN.step X6
  have none : (x = [] ∨ y = [] ∨ u = [] ∨ z = []) → Ext h K6 ∧ Value.string ⟨#[]⟩ = .string (bL (showL r l)) := fun q =>
    ⟨E2.trans T6.ext, by rw [showL_none OK (j := i) (by rw [hJ]; exact hi2) (by rw [hJ, hln, hLine, if_pos q])]; rfl⟩
  by_cases cx : x = []
  · simp (maxSteps := 4000000) (disch := omega) only [ah, am, Nat.reduceEqDiff, reduceCtorEq, Nat.reduceAdd, Nat.reduceLeDiff, Nat.reduceMul, Nat.reduceLT, if_true, if_false, true_and, and_true, and_self, Nat.reduceBEq, QOp.loads, boxO, bslO, buildO, cutL, fillV, putL, w5, v5, strB_nil, decide_eq_true cx]
    exact none (.inl cx)
  by_cases cy : y = []
  · simp (maxSteps := 4000000) (disch := omega) only [ah, am, Nat.reduceEqDiff, reduceCtorEq, Nat.reduceAdd, Nat.reduceLeDiff, Nat.reduceMul, Nat.reduceLT, if_true, if_false, true_and, and_true, and_self, Nat.reduceBEq, QOp.loads, boxO, bslO, buildO, cutL, fillV, putL, w5, v5, strB_nil, decide_eq_false cx, decide_eq_true cy]
    exact none (.inr (.inl cy))
  by_cases cu : u = []
  · simp (maxSteps := 4000000) (disch := omega) only [ah, am, Nat.reduceEqDiff, reduceCtorEq, Nat.reduceAdd, Nat.reduceLeDiff, Nat.reduceMul, Nat.reduceLT, if_true, if_false, true_and, and_true, and_self, Nat.reduceBEq, QOp.loads, boxO, bslO, buildO, cutL, fillV, putL, w5, v5, strB_nil, decide_eq_false cx, decide_eq_false cy, decide_eq_true cu]
    exact none (.inr (.inr (.inl cu)))
  by_cases cz : z = []
  · simp (maxSteps := 4000000) (disch := omega) only [ah, am, Nat.reduceEqDiff, reduceCtorEq, Nat.reduceAdd, Nat.reduceLeDiff, Nat.reduceMul, Nat.reduceLT, if_true, if_false, true_and, and_true, and_self, Nat.reduceBEq, QOp.loads, boxO, bslO, buildO, cutL, fillV, putL, w5, v5, strB_nil, decide_eq_false cx, decide_eq_false cy, decide_eq_false cu, decide_eq_true cz]
    exact none (.inr (.inr (.inr cz)))
  rw [if_neg (by rintro (q | q | q | q) <;> contradiction)] at hLine
  have ld := l6Digits_ok K6 (i + 1) (by omega)
  simp (maxSteps := 4000000) (disch := omega) only [ah, am, Nat.reduceEqDiff, reduceCtorEq, Nat.reduceAdd, Nat.reduceLeDiff, Nat.reduceMul, Nat.reduceLT, if_true, if_false, true_and, and_true, and_self, Nat.reduceBEq, QOp.loads, boxO, bslO, buildO, cutL, fillV, putL, w5, v5, strB_nil, decide_eq_false cx, decide_eq_false cy, decide_eq_false cu, decide_eq_false cz, wi]
  refine stepC.of ld ?_
  rintro _ K7 ⟨e7, rfl⟩
  have T7 := T6.step e7
  have X7 := X6.trans e7
  have lp := padL_le (k := 3) (n := i + 1) (by omega) (by omega)
  have lnm := namedL_len c hsrc
  have hol := outN_len r J hjs (by omega) i (by omega)
  have hll := lineL_len r i c (atN J i) hsrc (by omega)
  generalize padL 3 (digs (i + 1)) = p at *
  generalize namedL c = nm at *
  have A1 : strB .add (bL p) ⟨#[32]⟩ = some (.string (bL (p ++ [32]))) := strB_addL p [32] (by simp; omega)
  have A2 := strB_addL (p ++ [32]) nm (by simp; omega)
  have A3 : strB .add (bL (p ++ [32] ++ nm)) ⟨#[32, 67, 32]⟩ = some (.string (bL (p ++ [32] ++ nm ++ [32, 67, 32]))) := strB_addL _ [32, 67, 32] (by simp; omega)
  have A4 := strB_addL (p ++ [32] ++ nm ++ [32, 67, 32]) x (by simp; omega)
  have A5 : strB .add (bL (p ++ [32] ++ nm ++ [32, 67, 32] ++ x)) ⟨#[32]⟩ = some (.string (bL (p ++ [32] ++ nm ++ [32, 67, 32] ++ x ++ [32]))) := strB_addL _ [32] (by simp; omega)
  have A6 := strB_addL (p ++ [32] ++ nm ++ [32, 67, 32] ++ x ++ [32]) y (by simp; omega)
  have A7 : strB .add (bL (p ++ [32] ++ nm ++ [32, 67, 32] ++ x ++ [32] ++ y)) ⟨#[32]⟩ = some (.string (bL (p ++ [32] ++ nm ++ [32, 67, 32] ++ x ++ [32] ++ y ++ [32]))) := strB_addL _ [32] (by simp; omega)
  have A8 := strB_addL (p ++ [32] ++ nm ++ [32, 67, 32] ++ x ++ [32] ++ y ++ [32]) u (by simp; omega)
  have A9 : strB .add (bL (p ++ [32] ++ nm ++ [32, 67, 32] ++ x ++ [32] ++ y ++ [32] ++ u)) ⟨#[32]⟩ = some (.string (bL (p ++ [32] ++ nm ++ [32, 67, 32] ++ x ++ [32] ++ y ++ [32] ++ u ++ [32]))) := strB_addL _ [32] (by simp; omega)
  have A10 := strB_addL (p ++ [32] ++ nm ++ [32, 67, 32] ++ x ++ [32] ++ y ++ [32] ++ u ++ [32]) z (by simp; omega)
  have A11 : strB .add (bL (p ++ [32] ++ nm ++ [32, 67, 32] ++ x ++ [32] ++ y ++ [32] ++ u ++ [32] ++ z)) ⟨#[10]⟩ = some (.string (bL (lineL r i c (atN J i)))) := by rw [hLine]; exact strB_addL _ [10] (by simp; omega)
  obtain ⟨w2, K8, ap, T8⟩ := twAppS T7 (lineL r i c (atN J i)) (by omega)
  have B8 : Bx K8 K.size [.int .i64 c.src, .int .i64 c.inn, .int .i64 c.len] := (T8.box (K.size, [.int .i64 c.src, .int .i64 c.inn, .int .i64 c.len]) (by simp)).2
  have hat : IntKind.i64.wrap (atN J i + c.len) = atN J (i + 1) := by rw [atN_succ hi2, hc]
  simp (maxSteps := 4000000) (disch := omega) only [ah, am, Nat.reduceEqDiff, reduceCtorEq, Nat.reduceAdd, Nat.reduceLeDiff, Nat.reduceMul, Nat.reduceLT, if_true, if_false, true_and, and_true, and_self, Nat.reduceBEq, QOp.loads, boxO, bslO, buildO, cutL, fillV, putL, w5, v5, A1, A2, A3, A4, A5, A6, A7, A8, A9, A10, A11, ap, B8.ld, hat, wi]
  refine ⟨hi2, w2, ?_, fun j hj => ?_, rfl⟩
  · rw [outN_succ, hln]; exact twDrop T8
  · by_cases e : j = i
    · rw [e, hln, hLine]; simp
    · exact A j (by omega)
end Go.Proofs.YtgmimgmdbpcecaaDoor
