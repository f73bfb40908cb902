/- Merged texts of this claim: R9, V1, V2, V3, V4. -/
import Derived.Test.YtgmimgmdbpcecaaGreatDoorAhZ
import Derived.Test.YtgmimgmdbpcecaaGreatDoorZbE
section
namespace Go.Proofs.YtgmimgmdbpcecaaGreatDoor
open Go Go.Ah
set_option linter.unusedSimpArgs false
set_option linter.unusedVariables false
set_option maxRecDepth 10000
set_option maxHeartbeats 4000000
/-! 15 loop.example/g00066/spec.ShowList: parameters 2, live [0, 1], slots [0:r, 1:track, 2:r, 3:track, 5:b, 6:at, 7:list, 8:i, 9:k, 10:src, 11:x, 12:y, 13:u, 14:v] -/
def c15_0 : List SOper := [⟨some 2, .a (.box (.t 0)), none⟩, ⟨some 4, .q (.mv (.c (.string ⟨#[]⟩))), none⟩]
def c15_1 : List SOper := [⟨some 15, .q (.ldn 3 (.t 2)), none⟩, ⟨some 16, .e (.call 19 [(.t 15)]), none⟩, ⟨some 17, .q (.not (.t 16)), none⟩, ⟨some 18, .q (.mv (.t 17)), none⟩, ⟨some 19, .q (.mv (.t 1)), some (18, false)⟩, ⟨some 20, .e (.call 33 [(.t 19)]), some (18, false)⟩, ⟨some 21, .q (.not (.t 20)), some (18, false)⟩, ⟨some 22, .q (.pick (.t 18) (.c (.bool true)) (.t 21)), none⟩]
def c15_2 : List SOper := [⟨some 4, .q (.mv (.c (.string ⟨#[]⟩))), none⟩]
def c15_3 : SCode := .seq (.region c15_2 [4]) .ret
def c15_4 : SCode := .cond (.t 22) c15_3 .skip
def c15_5 : SCode := .seq (.region c15_1 [1, 2, 22]) c15_4
def c15_6 : List SOper := [⟨some 23, .a (.bsl 0 1 [] []), none⟩, ⟨some 5, .q (.mv (.t 23)), none⟩]
def c15_7 : List SOper := [⟨some 6, .q (.mv (.c (.int .i64 0))), none⟩]
def c15_8 : List SOper := [⟨some 24, .q (.mv (.t 1)), none⟩, ⟨some 25, .e (.call 34 [(.t 24)]), none⟩, ⟨some 7, .q (.mv (.t 25)), none⟩]
def c15_9 : List SOper := [⟨some 8, .q (.mv (.c (.int .i64 0))), none⟩]
def c15_10 : List SOper := [⟨some 26, .q (.mv (.t 8)), none⟩, ⟨some 27, .q (.mv (.t 7)), none⟩, ⟨some 28, .q (.len (.t 27)), none⟩, ⟨some 29, .q (.bin .lss (.t 26) (.t 28)), none⟩]
def c15_11 : SCode := .cond (.t 29) .skip (.exit 0)
def c15_12 : SCode := .seq (.region c15_10 [2, 5, 6, 7, 8, 29]) c15_11
def c15_13 : List SOper := [⟨some 32, .q (.mv (.t 7)), none⟩, ⟨some 33, .q (.mv (.t 8)), none⟩, ⟨some 34, .q (.ia 3 (.t 32) (.t 33)), none⟩, ⟨some 35, .q (.ldn 3 (.t 34)), none⟩, ⟨some 9, .a (.new [(.int .i64 0), (.int .i64 0), (.int .i64 0)]), none⟩, ⟨none, .e (.st 3 (.t 9) (.t 35)), none⟩]
def c15_14 : List SOper := [⟨some 10, .q (.mv (.c (.string ⟨#[66, 76]⟩))), none⟩]
def c15_15 : List SOper := [⟨some 36, .q (.fa 0 (.t 9)), none⟩, ⟨some 37, .q (.ld (.t 36)), none⟩, ⟨some 38, .q (.bin .gtr (.t 37) (.c (.int .i64 0))), none⟩]
def c15_16 : List SOper := [⟨some 39, .q (.fa 0 (.t 9)), none⟩, ⟨some 40, .q (.ld (.t 39)), none⟩, ⟨some 41, .e (.call 35 [(.t 40)]), none⟩, ⟨some 42, .q (.bin .add (.c (.string ⟨#[82]⟩)) (.t 41)), none⟩, ⟨some 10, .q (.mv (.t 42)), none⟩]
def c15_17 : SCode := .cond (.t 38) (.region c15_16 [2, 5, 6, 7, 8, 9, 10]) .skip
def c15_18 : SCode := .seq (.region c15_15 [2, 5, 6, 7, 8, 9, 10, 38]) c15_17
def c15_19 : List SOper := [⟨some 43, .q (.ldn 3 (.t 2)), none⟩, ⟨some 44, .q (.fa 1 (.t 9)), none⟩, ⟨some 45, .q (.ld (.t 44)), none⟩, ⟨some 46, .e (.call 36 [(.t 43), (.t 45)]), none⟩, ⟨some 11, .q (.mv (.t 46)), none⟩]
def c15_20 : List SOper := [⟨some 47, .q (.ldn 3 (.t 2)), none⟩, ⟨some 48, .q (.fa 1 (.t 9)), none⟩, ⟨some 49, .q (.ld (.t 48)), none⟩, ⟨some 50, .q (.fa 2 (.t 9)), none⟩, ⟨some 51, .q (.ld (.t 50)), none⟩, ⟨some 52, .q (.bin .add (.t 49) (.t 51)), none⟩, ⟨some 53, .e (.call 36 [(.t 47), (.t 52)]), none⟩, ⟨some 12, .q (.mv (.t 53)), none⟩]
def c15_21 : List SOper := [⟨some 54, .q (.ldn 3 (.t 2)), none⟩, ⟨some 55, .q (.mv (.t 6)), none⟩, ⟨some 56, .e (.call 36 [(.t 54), (.t 55)]), none⟩, ⟨some 13, .q (.mv (.t 56)), none⟩]
def c15_22 : List SOper := [⟨some 57, .q (.ldn 3 (.t 2)), none⟩, ⟨some 58, .q (.mv (.t 6)), none⟩, ⟨some 59, .q (.fa 2 (.t 9)), none⟩, ⟨some 60, .q (.ld (.t 59)), none⟩, ⟨some 61, .q (.bin .add (.t 58) (.t 60)), none⟩, ⟨some 62, .e (.call 36 [(.t 57), (.t 61)]), none⟩, ⟨some 14, .q (.mv (.t 62)), none⟩]
def c15_23 : List SOper := [⟨some 63, .q (.mv (.t 11)), none⟩, ⟨some 64, .q (.bin .eql (.t 63) (.c (.string ⟨#[]⟩))), none⟩, ⟨some 65, .q (.mv (.t 64)), none⟩, ⟨some 66, .q (.mv (.t 12)), some (65, false)⟩, ⟨some 67, .q (.bin .eql (.t 66) (.c (.string ⟨#[]⟩))), some (65, false)⟩, ⟨some 68, .q (.pick (.t 65) (.c (.bool true)) (.t 67)), none⟩, ⟨some 69, .q (.mv (.t 68)), none⟩, ⟨some 70, .q (.mv (.t 13)), some (69, false)⟩, ⟨some 71, .q (.bin .eql (.t 70) (.c (.string ⟨#[]⟩))), some (69, false)⟩, ⟨some 72, .q (.pick (.t 69) (.c (.bool true)) (.t 71)), none⟩, ⟨some 73, .q (.mv (.t 72)), none⟩, ⟨some 74, .q (.mv (.t 14)), some (73, false)⟩, ⟨some 75, .q (.bin .eql (.t 74) (.c (.string ⟨#[]⟩))), some (73, false)⟩, ⟨some 76, .q (.pick (.t 73) (.c (.bool true)) (.t 75)), none⟩]
def c15_24 : List SOper := [⟨some 4, .q (.mv (.c (.string ⟨#[]⟩))), none⟩]
def c15_25 : SCode := .seq (.region c15_24 [4]) .ret
def c15_26 : SCode := .cond (.t 76) c15_25 .skip
def c15_27 : SCode := .seq (.region c15_23 [2, 5, 6, 7, 8, 9, 10, 11, 12, 13, 14, 76]) c15_26
def c15_28 : List SOper := [⟨some 77, .q (.mv (.t 5)), none⟩, ⟨some 78, .q (.mv (.t 8)), none⟩, ⟨some 79, .q (.bin .add (.t 78) (.c (.int .i64 1))), none⟩, ⟨some 80, .e (.call 37 [(.t 79)]), none⟩, ⟨some 81, .q (.bin .add (.t 80) (.c (.string ⟨#[32]⟩))), none⟩, ⟨some 82, .q (.mv (.t 10)), none⟩, ⟨some 83, .q (.bin .add (.t 81) (.t 82)), none⟩, ⟨some 84, .q (.bin .add (.t 83) (.c (.string ⟨#[32, 67, 32]⟩))), none⟩, ⟨some 85, .q (.mv (.t 11)), none⟩, ⟨some 86, .q (.bin .add (.t 84) (.t 85)), none⟩, ⟨some 87, .q (.bin .add (.t 86) (.c (.string ⟨#[32]⟩))), none⟩, ⟨some 88, .q (.mv (.t 12)), none⟩, ⟨some 89, .q (.bin .add (.t 87) (.t 88)), none⟩, ⟨some 90, .q (.bin .add (.t 89) (.c (.string ⟨#[32]⟩))), none⟩, ⟨some 91, .q (.mv (.t 13)), none⟩, ⟨some 92, .q (.bin .add (.t 90) (.t 91)), none⟩, ⟨some 93, .q (.bin .add (.t 92) (.c (.string ⟨#[32]⟩))), none⟩, ⟨some 94, .q (.mv (.t 14)), none⟩, ⟨some 95, .q (.bin .add (.t 93) (.t 94)), none⟩, ⟨some 96, .q (.bin .add (.t 95) (.c (.string ⟨#[10]⟩))), none⟩, ⟨some 97, .e (.app 1 1 (.t 77) (.t 96)), none⟩, ⟨some 5, .q (.mv (.t 97)), none⟩]
def c15_29 : List SOper := [⟨some 98, .q (.mv (.t 6)), none⟩, ⟨some 99, .q (.fa 2 (.t 9)), none⟩, ⟨some 100, .q (.ld (.t 99)), none⟩, ⟨some 101, .q (.bin .add (.t 98) (.t 100)), none⟩, ⟨some 6, .q (.mv (.t 101)), none⟩]
def c15_30 : SCode := .seq (.region c15_28 [2, 5, 6, 7, 8, 9]) (.region c15_29 [2, 5, 6, 7, 8])
def c15_31 : SCode := .seq c15_27 c15_30
def c15_32 : SCode := .seq (.region c15_22 [2, 5, 6, 7, 8, 9, 10, 11, 12, 13, 14]) c15_31
def c15_33 : SCode := .seq (.region c15_21 [2, 5, 6, 7, 8, 9, 10, 11, 12, 13]) c15_32
def c15_34 : SCode := .seq (.region c15_20 [2, 5, 6, 7, 8, 9, 10, 11, 12]) c15_33
def c15_35 : SCode := .seq (.region c15_19 [2, 5, 6, 7, 8, 9, 10, 11]) c15_34
def c15_36 : SCode := .seq c15_18 c15_35
def c15_37 : SCode := .seq (.region c15_14 [2, 5, 6, 7, 8, 9, 10]) c15_36
def c15_38 : SCode := .seq (.region c15_13 [2, 5, 6, 7, 8, 9]) c15_37
def c15_39 : SCode := .block 1 c15_38
def c15_40 : List SOper := [⟨some 30, .q (.mv (.t 8)), none⟩, ⟨some 31, .q (.bin .add (.t 30) (.c (.int .i64 1))), none⟩, ⟨some 8, .q (.mv (.t 31)), none⟩]
def c15_41 : SCode := .seq c15_39 (.region c15_40 [2, 5, 6, 7, 8])
def c15_42 : SCode := .seq c15_12 c15_41
def c15_43 : SCode := .loop c15_42
def c15_44 : SCode := .block 0 c15_43
def c15_45 : SCode := .seq (.region c15_9 [2, 5, 6, 7, 8]) c15_44
def c15_46 : List SOper := [⟨some 102, .q (.mv (.t 5)), none⟩, ⟨some 103, .q (.cbs (.t 102)), none⟩, ⟨some 4, .q (.mv (.t 103)), none⟩]
def c15_47 : SCode := .seq (.region c15_46 [4]) .ret
def c15_48 : SCode := .seq c15_45 c15_47
def c15_49 : SCode := .seq (.region c15_8 [2, 5, 6, 7]) c15_48
def c15_50 : SCode := .seq (.region c15_7 [1, 2, 5, 6]) c15_49
def c15_51 : SCode := .seq (.region c15_6 [1, 2, 5]) c15_50
def c15_52 : SCode := .seq c15_5 c15_51
def c15_53 : SCode := .seq (.region c15_0 [1, 2]) c15_52
def c15 : SCode := c15_53
theorem w15 : type_of% (And.intro (uR Tryz.prog c15_0.eq_1) (And.intro (uR Tryz.prog c15_1.eq_1) (And.intro (uR Tryz.prog c15_2.eq_1) (And.intro (uC Tryz.prog c15_3.eq_1) (And.intro (uC Tryz.prog c15_4.eq_1) (And.intro (uC Tryz.prog c15_5.eq_1) (And.intro (uR Tryz.prog c15_6.eq_1) (And.intro (uR Tryz.prog c15_7.eq_1) (And.intro (uR Tryz.prog c15_8.eq_1) (And.intro (uR Tryz.prog c15_9.eq_1) (And.intro (uR Tryz.prog c15_10.eq_1) (And.intro (uC Tryz.prog c15_11.eq_1) (And.intro (uC Tryz.prog c15_12.eq_1) (And.intro (uR Tryz.prog c15_13.eq_1) (And.intro (uR Tryz.prog c15_14.eq_1) (And.intro (uR Tryz.prog c15_15.eq_1) (And.intro (uR Tryz.prog c15_16.eq_1) (And.intro (uC Tryz.prog c15_17.eq_1) (And.intro (uC Tryz.prog c15_18.eq_1) (And.intro (uR Tryz.prog c15_19.eq_1) (And.intro (uR Tryz.prog c15_20.eq_1) (And.intro (uR Tryz.prog c15_21.eq_1) (And.intro (uR Tryz.prog c15_22.eq_1) (And.intro (uR Tryz.prog c15_23.eq_1) (And.intro (uR Tryz.prog c15_24.eq_1) (And.intro (uC Tryz.prog c15_25.eq_1) (And.intro (uC Tryz.prog c15_26.eq_1) (And.intro (uC Tryz.prog c15_27.eq_1) (And.intro (uR Tryz.prog c15_28.eq_1) (And.intro (uR Tryz.prog c15_29.eq_1) (And.intro (uC Tryz.prog c15_30.eq_1) (And.intro (uC Tryz.prog c15_31.eq_1) (And.intro (uC Tryz.prog c15_32.eq_1) (And.intro (uC Tryz.prog c15_33.eq_1) (And.intro (uC Tryz.prog c15_34.eq_1) (And.intro (uC Tryz.prog c15_35.eq_1) (And.intro (uC Tryz.prog c15_36.eq_1) (And.intro (uC Tryz.prog c15_37.eq_1) (And.intro (uC Tryz.prog c15_38.eq_1) (And.intro (uC Tryz.prog c15_39.eq_1) (And.intro (uR Tryz.prog c15_40.eq_1) (And.intro (uC Tryz.prog c15_41.eq_1) (And.intro (uC Tryz.prog c15_42.eq_1) (And.intro (uC Tryz.prog c15_43.eq_1) (And.intro (uC Tryz.prog c15_44.eq_1) (And.intro (uC Tryz.prog c15_45.eq_1) (And.intro (uR Tryz.prog c15_46.eq_1) (And.intro (uC Tryz.prog c15_47.eq_1) (And.intro (uC Tryz.prog c15_48.eq_1) (And.intro (uC Tryz.prog c15_49.eq_1) (And.intro (uC Tryz.prog c15_50.eq_1) (And.intro (uC Tryz.prog c15_51.eq_1) (And.intro (uC Tryz.prog c15_52.eq_1) (And.intro (uC Tryz.prog c15_53.eq_1) (uC Tryz.prog c15.eq_1))))))))))))))))))))))))))))))))))))))))))))))))))))))) := (And.intro (uR Tryz.prog c15_0.eq_1) (And.intro (uR Tryz.prog c15_1.eq_1) (And.intro (uR Tryz.prog c15_2.eq_1) (And.intro (uC Tryz.prog c15_3.eq_1) (And.intro (uC Tryz.prog c15_4.eq_1) (And.intro (uC Tryz.prog c15_5.eq_1) (And.intro (uR Tryz.prog c15_6.eq_1) (And.intro (uR Tryz.prog c15_7.eq_1) (And.intro (uR Tryz.prog c15_8.eq_1) (And.intro (uR Tryz.prog c15_9.eq_1) (And.intro (uR Tryz.prog c15_10.eq_1) (And.intro (uC Tryz.prog c15_11.eq_1) (And.intro (uC Tryz.prog c15_12.eq_1) (And.intro (uR Tryz.prog c15_13.eq_1) (And.intro (uR Tryz.prog c15_14.eq_1) (And.intro (uR Tryz.prog c15_15.eq_1) (And.intro (uR Tryz.prog c15_16.eq_1) (And.intro (uC Tryz.prog c15_17.eq_1) (And.intro (uC Tryz.prog c15_18.eq_1) (And.intro (uR Tryz.prog c15_19.eq_1) (And.intro (uR Tryz.prog c15_20.eq_1) (And.intro (uR Tryz.prog c15_21.eq_1) (And.intro (uR Tryz.prog c15_22.eq_1) (And.intro (uR Tryz.prog c15_23.eq_1) (And.intro (uR Tryz.prog c15_24.eq_1) (And.intro (uC Tryz.prog c15_25.eq_1) (And.intro (uC Tryz.prog c15_26.eq_1) (And.intro (uC Tryz.prog c15_27.eq_1) (And.intro (uR Tryz.prog c15_28.eq_1) (And.intro (uR Tryz.prog c15_29.eq_1) (And.intro (uC Tryz.prog c15_30.eq_1) (And.intro (uC Tryz.prog c15_31.eq_1) (And.intro (uC Tryz.prog c15_32.eq_1) (And.intro (uC Tryz.prog c15_33.eq_1) (And.intro (uC Tryz.prog c15_34.eq_1) (And.intro (uC Tryz.prog c15_35.eq_1) (And.intro (uC Tryz.prog c15_36.eq_1) (And.intro (uC Tryz.prog c15_37.eq_1) (And.intro (uC Tryz.prog c15_38.eq_1) (And.intro (uC Tryz.prog c15_39.eq_1) (And.intro (uR Tryz.prog c15_40.eq_1) (And.intro (uC Tryz.prog c15_41.eq_1) (And.intro (uC Tryz.prog c15_42.eq_1) (And.intro (uC Tryz.prog c15_43.eq_1) (And.intro (uC Tryz.prog c15_44.eq_1) (And.intro (uC Tryz.prog c15_45.eq_1) (And.intro (uR Tryz.prog c15_46.eq_1) (And.intro (uC Tryz.prog c15_47.eq_1) (And.intro (uC Tryz.prog c15_48.eq_1) (And.intro (uC Tryz.prog c15_49.eq_1) (And.intro (uC Tryz.prog c15_50.eq_1) (And.intro (uC Tryz.prog c15_51.eq_1) (And.intro (uC Tryz.prog c15_52.eq_1) (And.intro (uC Tryz.prog c15_53.eq_1) (uC Tryz.prog c15.eq_1)))))))))))))))))))))))))))))))))))))))))))))))))))))))
def v15 : List RV := [.t 4]
theorem s15 : slimF Tryz.prog Tryz.f15 = some (c15.bare, v15) := by kernel_rfl

/-! ### Bytes -/
def encU (b : UInt8) : List Value := [.int .u8 (b.toNat : Int)]
theorem encU_len (b : UInt8) : (encU b).length = 1 := rfl
theorem flatU (l : List UInt8) : l.flatMap encU = l.map fun b => Value.int .u8 (b.toNat : Int) := by
  induction l with
  | nil => rfl
  | cons b l ih => rw [List.flatMap_cons, ih]; rfl
theorem srcW_str (h : Heap) (l : List UInt8) : srcW h 1 (.string (bL l)) = some (l.flatMap encU, l.length) := by
  rw [flatU]
  simp only [srcW, if_true, bL_size]
  rfl
theorem freshAppS {h h' : Heap} {v : Value} {l : List UInt8} (o : Fresh h h' encU 1 v l) (m : List UInt8) (hr : l.length + m.length ≤ 70368744177664) :
    ∃ v' h2, appV h' 1 1 v (.string (bL m)) = some (v', h2) ∧ Fresh h h2 encU 1 v' (l ++ m) := by
  obtain ⟨e0, g, hg, o⟩ := o
  obtain ⟨v', h2, g', e, O, G, hg', _⟩ := o.own.app (y := .string (bL m)) (bytes := 1) (srcW_str h' m) (by rw [flat_len encU_len]) (by rw [o.slt.slLen]; omega)
  exact ⟨v', h2, e, G.ext e0 hg, g', by have := e0.1; omega, ⟨by rw [List.flatMap_append]; exact O, encU_len, by omega⟩⟩
theorem bytesV_map (l : List UInt8) : bytesV (l.map fun b => Value.int .u8 (b.toNat : Int)) = some (l.map fun b => (b.toNat : Int)) := by
  induction l with
  | nil => rfl
  | cons b l ih => rw [List.map_cons, bytesV, ih]; rfl
theorem bytesS_map (l : List UInt8) : bytesS (l.map fun b => (b.toNat : Int)) = bL l := by
  have key : ∀ (l : List UInt8) (a : List UInt8), (l.map fun b => (b.toNat : Int)).foldl (fun r n => r.push (UInt8.ofNat n.toNat)) (bL a) = bL (a ++ l) := by
    intro l
    induction l with
    | nil => intro a; simp
    | cons b l ih =>
      intro a
      rw [List.map_cons, List.foldl_cons]
      have : (bL a).push (UInt8.ofNat ((b.toNat : Int)).toNat) = bL (a ++ [b]) := by
        apply bytes_inj
        simp [bL, ByteArray.push]
      rw [this, ih]; simp
  exact key l []
theorem cbs_own {h h' : Heap} {v : Value} {l : List UInt8} (o : Fresh h h' encU 1 v l) : cbsV h' v = some (.string (bL l)) := by
  obtain ⟨e0, g, hg, o⟩ := o
  rcases o.own with ⟨rfl, h2⟩ | ⟨i, p, n, ob, rfl, h2, h3, h4, h5, _⟩
  · have : l = [] := by
      cases l with
      | nil => rfl
      | cons b l => simp [encU] at h2
    subst this; rfl
  · have hr : rdn h' i p n = some (l.map fun b => Value.int .u8 (b.toNat : Int)) := by
      rw [← flatU, ← h5]
      unfold rdn
      rw [h2]
      simp only [Nat.mul_one] at h4 h5 ⊢
      rw [if_pos ⟨h3, h4⟩]
    simp only [cbsV, hr, Option.bind_some, bytesV_map, Option.map_some, bytesS_map]
theorem twBox {β : Type} {a b : Nat} {h0 h : Heap} {v : Value} {l : List UInt8} {enc' : β → List Value} {sz' : Nat} {u : Value} {m : List β} (t : Tw a b h0 h encU 1 v l [] enc' sz' u m) (cs : List Value) :
    Tw a b h0 (h.more [cs]) encU 1 v l [(h.size, cs)] enc' sz' u m := by
  have e := Ext.more h [cs]
  have hsz : (h.more [cs]).size = h.size + 1 := size_more _ _
  have B := Bx.new h cs []
  have hle := t.le
  have h0s := t.ext.1
  refine ⟨t.ext.trans e, Nat.le_trans t.le e.1, ?_, fun p hp => ?_, t.mine.ext e⟩
  · obtain ⟨g, g1, g2, g3, g4⟩ := t.own
    rcases g3.own with ⟨rfl, h2⟩ | ⟨i, off, n, ob, rfl, h2, h3⟩
    · refine ⟨h.size + 1, by omega, .inr (by omega), ⟨.inl ⟨rfl, h2⟩, encU_len, by omega⟩, fun p hp => ?_⟩
      rw [List.mem_singleton] at hp; rw [hp]; simp
    · have := Heap.get_lt h2; have := Heap.grp_le h2
      have hg : ob.grp = g := h3.2.2.2.2
      refine ⟨g, g1, g2, g3.ext e, fun p hp => ?_⟩
      rw [List.mem_singleton] at hp; rw [hp]; simp only; omega
  · rw [List.mem_singleton] at hp; rw [hp]
    exact ⟨h0s, B⟩
theorem twDrop {β : Type} {a b : Nat} {h0 h : Heap} {v : Value} {l : List UInt8} {B : List (Nat × List Value)} {enc' : β → List Value} {sz' : Nat} {u : Value} {m : List β} (t : Tw a b h0 h encU 1 v l B enc' sz' u m) :
    Tw a b h0 h encU 1 v l [] enc' sz' u m := by
  obtain ⟨g, g1, g2, g3, g4⟩ := t.own
  exact ⟨t.ext, t.le, ⟨g, g1, g2, g3, fun p hp => (by cases hp)⟩, fun p hp => (by cases hp), t.mine⟩
theorem twAppS {β : Type} {a b : Nat} {h0 h : Heap} {v : Value} {l : List UInt8} {B : List (Nat × List Value)} {enc' : β → List Value} {sz' : Nat} {u : Value} {m : List β} (t : Tw a b h0 h encU 1 v l B enc' sz' u m) (M : List UInt8) (hr : l.length + M.length ≤ 70368744177664) :
    ∃ v' h2, appV h 1 1 v (.string (bL M)) = some (v', h2) ∧ Tw a b h0 h2 encU 1 v' (l ++ M) B enc' sz' u m := by
  have key : ∃ g, h0.size ≤ g ∧ (g < a ∨ b ≤ g) ∧ (g < h.size ∨ g = h.size) ∧ OwnT g h encU 1 v l ∧ ∀ p, p ∈ B → p.1 ≠ g := by
    obtain ⟨g, g1, g2, g3, g4⟩ := t.own
    rcases g3.own with ⟨rfl, h2⟩ | ⟨i, off, n, ob, rfl, h2, h3⟩
    · refine ⟨h.size, t.ext.1, .inr t.le, .inr rfl, ⟨.inl ⟨rfl, h2⟩, encU_len, by omega⟩, fun p hp => ?_⟩
      have := Heap.get_lt (t.box p hp).2; omega
    · have := Heap.get_lt h2; have := Heap.grp_le h2
      have : ob.grp = g := h3.2.2.2.2
      exact ⟨g, g1, g2, .inl (by omega), g3, g4⟩
  obtain ⟨g, g1, g2, g5, g3, g4⟩ := key
  obtain ⟨v', h2, g', e, O, G, hg', _⟩ := g3.own.app (y := .string (bL M)) (bytes := 1) (srcW_str h M) (by rw [flat_len encU_len]) (by rw [g3.slt.slLen]; omega)
  have hsz := t.ext.1
  have hle := t.le
  refine ⟨v', h2, e, G.ext t.ext g1, Nat.le_trans hle G.1, ⟨g', by omega, by omega, ⟨by rw [List.flatMap_append]; exact O, encU_len, by omega⟩, fun p hp => ?_⟩, fun p hp => ⟨(t.box p hp).1, G.2 _ _ (t.box p hp).2 (g4 p hp)⟩,
    t.mine.chg (G.chg (Nat.le_refl g) (Nat.lt_succ_self g)) (by omega)⟩
  have h5 := Heap.get_lt (t.box p hp).2
  rcases hg' with rfl | rfl
  · exact g4 p hp
  · omega
theorem specShowList_ok (h : Heap) (v : Value) (r : Rate) (l : List Clip) (s : SlT h encClip 3 v l) (hl : l.length ≤ 1100000) :
    ACall Tryz.prog 15 [.agg (encRate r).toArray, v] h fun x h' => Ext h h' ∧ x = .string (bL (showL r l)) := by
  have B := Bx.new h (encRate r) []
  have eM := Ext.more h [encRate r]
  have rk := specRateOk_ok (h.more [encRate r]) r
  simp only [encRate] at B eM rk
  refine ACall.of Tryz.func15 s15 (of_decide_eq_true rfl) ?_
  simp (maxSteps := 4000000) (disch := omega) only [ah, am, Nat.reduceEqDiff, reduceCtorEq, Nat.reduceAdd, Nat.reduceLeDiff, Nat.reduceMul, Nat.reduceLT, if_true, if_false, true_and, and_true, and_self, Nat.reduceBEq, QOp.loads, boxO, bslO, buildO, cutL, fillV, putL, w15, v15, encRate, B.ld]
  refine stepC.of rk ?_
  rintro _ H1 ⟨e1, rfl⟩
  have E1 := eM.trans e1
  by_cases hr : rateOk r
  rotate_left
  · simp (maxSteps := 4000000) (disch := omega) only [ah, am, Nat.reduceEqDiff, reduceCtorEq, Nat.reduceAdd, Nat.reduceLeDiff, Nat.reduceMul, Nat.reduceLT, if_true, if_false, true_and, and_true, and_self, Nat.reduceBEq, QOp.loads, boxO, bslO, buildO, cutL, fillV, putL, w15, v15, decide_eq_false hr]
    exact ⟨E1, by rw [showL_bad fun q => hr q.1]; rfl⟩
  simp (maxSteps := 4000000) (disch := omega) only [ah, am, Nat.reduceEqDiff, reduceCtorEq, Nat.reduceAdd, Nat.reduceLeDiff, Nat.reduceMul, Nat.reduceLT, if_true, if_false, true_and, and_true, and_self, Nat.reduceBEq, QOp.loads, boxO, bslO, buildO, cutL, fillV, putL, w15, v15, decide_eq_true hr]
  refine stepC.of (TrackOk_ok H1 v l (s.ext E1) (by omega)) ?_
  rintro _ H2 ⟨e2, rfl⟩
  have E2 := E1.trans e2
  by_cases ht : trackOk l
  rotate_left
  · simp (maxSteps := 4000000) (disch := omega) only [ah, am, Nat.reduceEqDiff, reduceCtorEq, Nat.reduceAdd, Nat.reduceLeDiff, Nat.reduceMul, Nat.reduceLT, if_true, if_false, true_and, and_true, and_self, Nat.reduceBEq, QOp.loads, boxO, bslO, buildO, cutL, fillV, putL, w15, v15, decide_eq_false ht]
    exact ⟨E2, by rw [showL_bad fun q => ht q.2]; rfl⟩
  have OK : rateOk r ∧ trackOk l := ⟨hr, ht⟩
  have hck : ∀ k ∈ l, clipOk k := ht.2.1
  have hjl := join_length l
  have hl300 : l.length ≤ 300 := ht.1
  have hjs : ∀ a ∈ join l, 0 ≤ a.src ∧ a.src ≤ 500 := join_src fun k hk => by have := hck k hk; unfold clipOk at this; omega
  simp (maxSteps := 4000000) (disch := omega) only [ah, am, Nat.reduceEqDiff, reduceCtorEq, Nat.reduceAdd, Nat.reduceLeDiff, Nat.reduceMul, Nat.reduceLT, if_true, if_false, true_and, and_true, and_self, Nat.reduceBEq, QOp.loads, boxO, bslO, buildO, cutL, fillV, putL, w15, v15, decide_eq_true ht]
  have F0 := Fresh.new0 (enc := encU) (sz := 1) H2 encU_len (by omega)
  refine stepC.of (l4Join_ok (H2.more [[]]) v l (s.ext (E2.trans F0.1)) hl fun k hk => (hck k hk).in) ?_
  intro jv H3 F3
  have T0 := Tw.of (Fk.of (X := []) F0) F3
  have B2 := (B.ext e1).ext e2
  generalize hJ : join l = J at T0 hjs hjl
  obtain ⟨a0, ha0⟩ : ∃ a, a = (H2.more [[]]).size := ⟨_, rfl⟩
  obtain ⟨b0, hb0⟩ : ∃ b, b = H3.size := ⟨_, rfl⟩
  rw [← ha0, ← hb0] at T0
  simp (maxSteps := 4000000) (disch := omega) only [ah, am, Nat.reduceEqDiff, reduceCtorEq, Nat.reduceAdd, Nat.reduceLeDiff, Nat.reduceMul, Nat.reduceLT, if_true, if_false, true_and, and_true, and_self, Nat.reduceBEq, QOp.loads, boxO, bslO, buildO, cutL, fillV, putL, w15, v15]
  refine SW_loop_up (fun i E K => ∃ w, Tw a0 b0 H2 K encU 1 w (outN r J i) [] encClip 3 jv J ∧ (∀ j, j < i → lnN r J j ≠ []) ∧ E = [(2, .pointer (some ⟨h.size, 0, none⟩)), (5, w), (6, .int .i64 (atN J i)), (7, jv), (8, .int .i64 (i : Int))]) J.length 0 (by omega) ⟨_, T0, fun j hj => by omega, rfl⟩ ?_
  clear T0 F3 F0 ha0 hb0
  rintro i E K hi ⟨w, T, A, rfl⟩
  have wi : IntKind.i64.wrap ((i : Int) + 1) = ((i + 1 : Nat) : Int) := i64e (by omega) (by omega)
  have RK := T.mine.slt.rulesN
  simp (maxSteps := 4000000) (disch := omega) only [ah, am, Nat.reduceEqDiff, reduceCtorEq, Nat.reduceAdd, Nat.reduceLeDiff, Nat.reduceMul, Nat.reduceLT, if_true, if_false, true_and, and_true, and_self, Nat.reduceBEq, QOp.loads, boxO, bslO, buildO, cutL, fillV, putL, w15, v15, RK.1]
  refine stepI.split (fun hp => ?_) (fun hp => ?_)
  rotate_left
  · have hii : i = J.length := by omega
    subst hii
    have CB := cbs_own T.fk.fresh
    simp (maxSteps := 4000000) (disch := omega) only [ah, am, Nat.reduceEqDiff, reduceCtorEq, Nat.reduceAdd, Nat.reduceLeDiff, Nat.reduceMul, Nat.reduceLT, if_true, if_false, true_and, and_true, and_self, Nat.reduceBEq, QOp.loads, boxO, bslO, buildO, cutL, fillV, putL, w15, v15, ev_cbs, CB]
    refine ⟨E2.trans T.ext, ?_⟩
    rw [showL_some OK (by rw [hJ]; exact A), hJ]
  have hi2 : i < J.length := by omega
  have IA := RK.2.1 .i64 i hi2
  have LN : ldnV K 3 (ptrAt jv (i * 3)) = some (.agg (encClip J[i]).toArray) := RK.2.2.2.2.2 i hi2
  have hsrc := hjs _ (List.getElem_mem hi2)
  have eN := Ext.more K [[.int .i64 J[i].src, .int .i64 J[i].inn, .int .i64 J[i].len]]
  have BN := Bx.new K [.int .i64 J[i].src, .int .i64 J[i].inn, .int .i64 J[i].len] []
  have TN := twBox T [.int .i64 J[i].src, .int .i64 J[i].inn, .int .i64 J[i].len]
  generalize hc : J[i] = c at *
  have hln : lnN r J i = lineL r i c (atN J i) := by rw [lnN_eq hi2, hc]
  simp (maxSteps := 4000000) (disch := omega) only [ah, am, Nat.reduceEqDiff, reduceCtorEq, Nat.reduceAdd, Nat.reduceLeDiff, Nat.reduceMul, Nat.reduceLT, if_true, if_false, true_and, and_true, and_self, Nat.reduceBEq, QOp.loads, boxO, bslO, buildO, cutL, fillV, putL, w15, v15, IA, LN, encClip]
  obtain ⟨K1, hK1⟩ : ∃ K1, K1 = K.more [[.int .i64 c.src, .int .i64 c.inn, .int .i64 c.len]] := ⟨_, rfl⟩
  rw [← hK1] at eN BN TN ⊢
  refine SW_if (fun E K' => Ext K1 K' ∧ ∃ R, E = (2, .pointer (some ⟨h.size, 0, none⟩)) :: (5, w) :: (6, .int .i64 (atN J i)) :: (7, jv) :: (8, .int .i64 (i : Int)) :: (9, .pointer (some ⟨K.size, 0, none⟩)) :: (10, .string (bL (namedL c))) :: R) (fun hb => ?_) (fun hb => ?_) ?_
  · have c0 : 0 < c.src := of_decide_eq_true hb
    have lk := l1Int_ok K1 c.src.toNat (by omega)
    rw [show ((c.src.toNat : Nat) : Int) = c.src from by omega] at lk
    simp (maxSteps := 4000000) (disch := omega) only [ah, am, Nat.reduceEqDiff, reduceCtorEq, Nat.reduceAdd, Nat.reduceLeDiff, Nat.reduceMul, Nat.reduceLT, if_true, if_false, true_and, and_true, and_self, Nat.reduceBEq, QOp.loads, boxO, bslO, buildO, cutL, fillV, putL, w15, v15, BN.ld]
    refine stepC.of lk ?_
    rintro _ K2 ⟨e, rfl⟩
    have hl := digs_len19 (n := c.src.toNat) (by omega)
    have A2 : strB .add ⟨#[82]⟩ (bL (digs c.src.toNat)) = some (.string (bL (82 :: digs c.src.toNat))) := strB_addL [82] (digs c.src.toNat) (by simp; omega)
    have en : namedL c = 82 :: digs c.src.toNat := if_neg (by omega)
    rw [en]
    simp (maxSteps := 4000000) (disch := omega) only [ah, am, Nat.reduceEqDiff, reduceCtorEq, Nat.reduceAdd, Nat.reduceLeDiff, Nat.reduceMul, Nat.reduceLT, if_true, if_false, true_and, and_true, and_self, Nat.reduceBEq, QOp.loads, boxO, bslO, buildO, cutL, fillV, putL, w15, v15, A2]
    exact ⟨e, _, rfl⟩
  · have c0 : ¬ 0 < c.src := of_decide_eq_false hb
    have en : namedL c = [66, 76] := if_pos (by omega)
    rw [en]
    exact ⟨Ext.refl _, _, rfl⟩
  rintro E K2 ⟨e2', R, rfl⟩
  have B0 : ∀ {K' : Heap}, Ext K1 K' → Bx K' h.size [.int .i64 r.num, .int .i64 r.den, .bool r.drop] := fun e => (B2.ext TN.ext).ext e
  have tk := fun K f => specTimeText_ok K r f
  simp only [encRate] at tk
  obtain ⟨x, hx⟩ : ∃ x, x = timeL r c.inn := ⟨_, rfl⟩
  obtain ⟨y, hy⟩ : ∃ y, y = timeL r (IntKind.i64.wrap (c.inn + c.len)) := ⟨_, rfl⟩
  obtain ⟨u, hu⟩ : ∃ u, u = timeL r (atN J i) := ⟨_, rfl⟩
  obtain ⟨z, hz⟩ : ∃ z, z = timeL r (IntKind.i64.wrap (atN J i + c.len)) := ⟨_, rfl⟩
  have lx := timeL_len r c.inn
  have ly := timeL_len r (IntKind.i64.wrap (c.inn + c.len))
  have lu := timeL_len r (atN J i)
  have lz := timeL_len r (IntKind.i64.wrap (atN J i + c.len))
  have hLine : lineL r i c (atN J i) = if x = [] ∨ y = [] ∨ u = [] ∨ z = [] then [] else
    padL 3 (digs (i + 1)) ++ [32] ++ namedL c ++ [32, 67, 32] ++ x ++ [32] ++ y ++ [32] ++ u ++ [32] ++ z ++ [10] := by rw [hx, hy, hu, hz]; rfl
  have t1 := fun K => tk K c.inn
  have t2 := fun K => tk K (IntKind.i64.wrap (c.inn + c.len))
  have t3 := fun K => tk K (atN J i)
  have t4 := fun K => tk K (IntKind.i64.wrap (atN J i + c.len))
  simp only [← hx] at t1 lx
  simp only [← hy] at t2 ly
  simp only [← hu] at t3 lu
  simp only [← hz] at t4 lz
  clear hx hy hu hz tk
  simp (maxSteps := 4000000) (disch := omega) only [ah, am, Nat.reduceEqDiff, reduceCtorEq, Nat.reduceAdd, Nat.reduceLeDiff, Nat.reduceMul, Nat.reduceLT, if_true, if_false, true_and, and_true, and_self, Nat.reduceBEq, QOp.loads, boxO, bslO, buildO, cutL, fillV, putL, w15, v15, (B0 e2').ld, (BN.ext e2').ld]
  refine stepC.of (t1 K2) ?_
  rintro _ K3 ⟨e3, rfl⟩
  have X3 := e2'.trans e3
  simp (maxSteps := 4000000) (disch := omega) only [ah, am, Nat.reduceEqDiff, reduceCtorEq, Nat.reduceAdd, Nat.reduceLeDiff, Nat.reduceMul, Nat.reduceLT, if_true, if_false, true_and, and_true, and_self, Nat.reduceBEq, QOp.loads, boxO, bslO, buildO, cutL, fillV, putL, w15, v15, (B0 X3).ld, (BN.ext X3).ld]
  refine stepC.of (t2 K3) ?_
  rintro _ K4 ⟨e4, rfl⟩
  have X4 := X3.trans e4
  simp (maxSteps := 4000000) (disch := omega) only [ah, am, Nat.reduceEqDiff, reduceCtorEq, Nat.reduceAdd, Nat.reduceLeDiff, Nat.reduceMul, Nat.reduceLT, if_true, if_false, true_and, and_true, and_self, Nat.reduceBEq, QOp.loads, boxO, bslO, buildO, cutL, fillV, putL, w15, v15, (B0 X4).ld, (BN.ext X4).ld]
  refine stepC.of (t3 K4) ?_
  rintro _ K5 ⟨e5, rfl⟩
  have X5 := X4.trans e5
  simp (maxSteps := 4000000) (disch := omega) only [ah, am, Nat.reduceEqDiff, reduceCtorEq, Nat.reduceAdd, Nat.reduceLeDiff, Nat.reduceMul, Nat.reduceLT, if_true, if_false, true_and, and_true, and_self, Nat.reduceBEq, QOp.loads, boxO, bslO, buildO, cutL, fillV, putL, w15, v15, (B0 X5).ld, (BN.ext X5).ld]
  refine stepC.of (t4 K5) ?_
  rintro _ K6 ⟨e6, rfl⟩
  have X6 := X5.trans e6
  have T6 := TN.step X6
  have none : (x = [] ∨ y = [] ∨ u = [] ∨ z = []) → Ext h K6 ∧ Value.string ⟨#[]⟩ = .string (bL (showL r l)) := fun q =>
    ⟨E2.trans T6.ext, by rw [showL_none OK (j := i) (by rw [hJ]; exact hi2) (by rw [hJ, hln, hLine, if_pos q])]; rfl⟩
  by_cases cx : x = []
  · simp (maxSteps := 4000000) (disch := omega) only [ah, am, Nat.reduceEqDiff, reduceCtorEq, Nat.reduceAdd, Nat.reduceLeDiff, Nat.reduceMul, Nat.reduceLT, if_true, if_false, true_and, and_true, and_self, Nat.reduceBEq, QOp.loads, boxO, bslO, buildO, cutL, fillV, putL, w15, v15, strB_nil, decide_eq_true cx]
    exact none (.inl cx)
  by_cases cy : y = []
  · simp (maxSteps := 4000000) (disch := omega) only [ah, am, Nat.reduceEqDiff, reduceCtorEq, Nat.reduceAdd, Nat.reduceLeDiff, Nat.reduceMul, Nat.reduceLT, if_true, if_false, true_and, and_true, and_self, Nat.reduceBEq, QOp.loads, boxO, bslO, buildO, cutL, fillV, putL, w15, v15, strB_nil, decide_eq_false cx, decide_eq_true cy]
    exact none (.inr (.inl cy))
  by_cases cu : u = []
  · simp (maxSteps := 4000000) (disch := omega) only [ah, am, Nat.reduceEqDiff, reduceCtorEq, Nat.reduceAdd, Nat.reduceLeDiff, Nat.reduceMul, Nat.reduceLT, if_true, if_false, true_and, and_true, and_self, Nat.reduceBEq, QOp.loads, boxO, bslO, buildO, cutL, fillV, putL, w15, v15, strB_nil, decide_eq_false cx, decide_eq_false cy, decide_eq_true cu]
    exact none (.inr (.inr (.inl cu)))
  by_cases cz : z = []
  · simp (maxSteps := 4000000) (disch := omega) only [ah, am, Nat.reduceEqDiff, reduceCtorEq, Nat.reduceAdd, Nat.reduceLeDiff, Nat.reduceMul, Nat.reduceLT, if_true, if_false, true_and, and_true, and_self, Nat.reduceBEq, QOp.loads, boxO, bslO, buildO, cutL, fillV, putL, w15, v15, strB_nil, decide_eq_false cx, decide_eq_false cy, decide_eq_false cu, decide_eq_true cz]
    exact none (.inr (.inr (.inr cz)))
  rw [if_neg (by rintro (q | q | q | q) <;> contradiction)] at hLine
  have ld := l6Digits_ok K6 (i + 1) (by omega)
  simp (maxSteps := 4000000) (disch := omega) only [ah, am, Nat.reduceEqDiff, reduceCtorEq, Nat.reduceAdd, Nat.reduceLeDiff, Nat.reduceMul, Nat.reduceLT, if_true, if_false, true_and, and_true, and_self, Nat.reduceBEq, QOp.loads, boxO, bslO, buildO, cutL, fillV, putL, w15, v15, strB_nil, decide_eq_false cx, decide_eq_false cy, decide_eq_false cu, decide_eq_false cz, wi]
  refine stepC.of ld ?_
  rintro _ K7 ⟨e7, rfl⟩
  have T7 := T6.step e7
  have X7 := X6.trans e7
  have lp := padL_le (k := 3) (n := i + 1) (by omega) (by omega)
  have lnm := namedL_len c hsrc
  have hol := outN_len r J hjs (by omega) i (by omega)
  have hll := lineL_len r i c (atN J i) hsrc (by omega)
  generalize padL 3 (digs (i + 1)) = p at *
  generalize namedL c = nm at *
  have A1 : strB .add (bL p) ⟨#[32]⟩ = some (.string (bL (p ++ [32]))) := strB_addL p [32] (by simp; omega)
  have A2 := strB_addL (p ++ [32]) nm (by simp; omega)
  have A3 : strB .add (bL (p ++ [32] ++ nm)) ⟨#[32, 67, 32]⟩ = some (.string (bL (p ++ [32] ++ nm ++ [32, 67, 32]))) := strB_addL _ [32, 67, 32] (by simp; omega)
  have A4 := strB_addL (p ++ [32] ++ nm ++ [32, 67, 32]) x (by simp; omega)
  have A5 : strB .add (bL (p ++ [32] ++ nm ++ [32, 67, 32] ++ x)) ⟨#[32]⟩ = some (.string (bL (p ++ [32] ++ nm ++ [32, 67, 32] ++ x ++ [32]))) := strB_addL _ [32] (by simp; omega)
  have A6 := strB_addL (p ++ [32] ++ nm ++ [32, 67, 32] ++ x ++ [32]) y (by simp; omega)
  have A7 : strB .add (bL (p ++ [32] ++ nm ++ [32, 67, 32] ++ x ++ [32] ++ y)) ⟨#[32]⟩ = some (.string (bL (p ++ [32] ++ nm ++ [32, 67, 32] ++ x ++ [32] ++ y ++ [32]))) := strB_addL _ [32] (by simp; omega)
  have A8 := strB_addL (p ++ [32] ++ nm ++ [32, 67, 32] ++ x ++ [32] ++ y ++ [32]) u (by simp; omega)
  have A9 : strB .add (bL (p ++ [32] ++ nm ++ [32, 67, 32] ++ x ++ [32] ++ y ++ [32] ++ u)) ⟨#[32]⟩ = some (.string (bL (p ++ [32] ++ nm ++ [32, 67, 32] ++ x ++ [32] ++ y ++ [32] ++ u ++ [32]))) := strB_addL _ [32] (by simp; omega)
  have A10 := strB_addL (p ++ [32] ++ nm ++ [32, 67, 32] ++ x ++ [32] ++ y ++ [32] ++ u ++ [32]) z (by simp; omega)
  have A11 : strB .add (bL (p ++ [32] ++ nm ++ [32, 67, 32] ++ x ++ [32] ++ y ++ [32] ++ u ++ [32] ++ z)) ⟨#[10]⟩ = some (.string (bL (lineL r i c (atN J i)))) := by rw [hLine]; exact strB_addL _ [10] (by simp; omega)
  obtain ⟨w2, K8, ap, T8⟩ := twAppS T7 (lineL r i c (atN J i)) (by omega)
  have B8 : Bx K8 K.size [.int .i64 c.src, .int .i64 c.inn, .int .i64 c.len] := (T8.box (K.size, [.int .i64 c.src, .int .i64 c.inn, .int .i64 c.len]) (by simp)).2
  have hat : IntKind.i64.wrap (atN J i + c.len) = atN J (i + 1) := by rw [atN_succ hi2, hc]
  simp (maxSteps := 4000000) (disch := omega) only [ah, am, Nat.reduceEqDiff, reduceCtorEq, Nat.reduceAdd, Nat.reduceLeDiff, Nat.reduceMul, Nat.reduceLT, if_true, if_false, true_and, and_true, and_self, Nat.reduceBEq, QOp.loads, boxO, bslO, buildO, cutL, fillV, putL, w15, v15, A1, A2, A3, A4, A5, A6, A7, A8, A9, A10, A11, ap, B8.ld, hat, wi]
  refine ⟨hi2, w2, ?_, fun j hj => ?_, rfl⟩
  · rw [outN_succ, hln]; exact twDrop T8
  · by_cases e : j = i
    · rw [e, hln, hLine]; simp
    · exact A j (by omega)
end Go.Proofs.YtgmimgmdbpcecaaGreatDoor
end

section
namespace Go.Proofs.YtgmimgmdbpcecaaGreatDoor
open Go Go.Ah
set_option linter.unusedSimpArgs false
set_option linter.unusedVariables false
set_option maxRecDepth 10000
set_option maxHeartbeats 4000000
/-! ### Lines -/
def spl : List UInt8 → List (List UInt8)
  | [] => [[]]
  | b :: t => if b = 32 then [] :: spl t else match spl t with
    | h :: r => (b :: h) :: r
    | [] => [[b]]
theorem spl_ne (L : List UInt8) : ∃ h r, spl L = h :: r := by
  induction L with
  | nil => exact ⟨[], [], rfl⟩
  | cons b t ih =>
    obtain ⟨h, r, e⟩ := ih
    unfold spl
    split
    · exact ⟨_, _, rfl⟩
    · rw [e]; exact ⟨_, _, rfl⟩
theorem spl_nl (t : List UInt8) : spl (32 :: t) = [] :: spl t := by rw [spl]; simp
theorem spl_cons {b : UInt8} (hb : b ≠ 32) {t h : List UInt8} {r : List (List UInt8)} (e : spl t = h :: r) : spl (b :: t) = (b :: h) :: r := by
  rw [spl, if_neg hb, e]
theorem spl_len (L : List UInt8) : (spl L).length = L.count 32 + 1 := by
  induction L with
  | nil => rfl
  | cons b t ih =>
    obtain ⟨h, r, e⟩ := spl_ne t
    by_cases hb : b = 32
    · subst hb; rw [spl_nl, List.length_cons, ih, List.count_cons_self]
    · rw [spl_cons hb e, List.count_cons_of_ne hb, ← ih, e]; simp
theorem spl_piece (L : List UInt8) : ∀ p ∈ spl L, p.length ≤ L.length := by
  induction L with
  | nil => intro p hp; simp [spl] at hp; simp [hp]
  | cons b t ih =>
    obtain ⟨h, r, e⟩ := spl_ne t
    intro p hp
    by_cases hb : b = 32
    · subst hb
      rw [spl_nl, List.mem_cons] at hp
      rcases hp with rfl | hp
      · simp
      · have := ih p hp; simp; omega
    · rw [spl_cons hb e, List.mem_cons] at hp
      rcases hp with rfl | hp
      · have := ih h (by rw [e]; exact List.mem_cons_self)
        simp; omega
      · have := ih p (by rw [e]; exact List.mem_cons_of_mem _ hp)
        simp; omega
theorem index_nl_cons {b : UInt8} (hb : b ≠ 32) (t : List UInt8) : Lib.index (b :: t) [32] = if Lib.index t [32] = -1 then -1 else Lib.index t [32] + 1 := by
  have : ([32] : List UInt8).isPrefixOf (b :: t) = false := by simp [List.isPrefixOf]; exact fun e => hb e.symm
  rw [Lib.index, this]
  simp
theorem index_nl_here (t : List UInt8) : Lib.index (32 :: t) [32] = 0 := by
  rw [Lib.index]; simp [List.isPrefixOf]
theorem index_of_count0 : ∀ t : List UInt8, t.count 32 = 0 → Lib.index t [32] = -1 := by
  intro t
  induction t with
  | nil => intro _; simp [Lib.index]
  | cons b t ih =>
    intro h
    by_cases hb : b = 32
    · subst hb; rw [List.count_cons_self] at h; omega
    · rw [List.count_cons_of_ne hb] at h
      rw [index_nl_cons hb, if_pos (ih h)]
theorem index_of_count : ∀ t : List UInt8, 0 < t.count 32 → ∃ i : Nat, Lib.index t [32] = i := by
  intro t
  induction t with
  | nil => intro h; simp at h
  | cons b t ih =>
    intro h
    by_cases hb : b = 32
    · subst hb; exact ⟨0, index_nl_here t⟩
    · rw [List.count_cons_of_ne hb] at h
      obtain ⟨i, e⟩ := ih h
      exact ⟨i + 1, by rw [index_nl_cons hb, e, if_neg (by omega)]; omega⟩
theorem splitK_spl : ∀ L : List UInt8, Lib.splitK [32] 0 (L.count 32) L = spl L := by
  intro L
  induction L with
  | nil => rfl
  | cons b t ih =>
    by_cases hb : b = 32
    · subst hb
      rw [List.count_cons_self, spl_nl, Lib.splitK, index_nl_here]
      simp only [List.length_cons, List.length_nil]
      rw [if_neg (by decide)]
      simpa using ih
    · rw [List.count_cons_of_ne hb]
      obtain ⟨h, r, e⟩ := spl_ne t
      rw [spl_cons hb e]
      rw [e] at ih
      by_cases h0 : t.count 32 = 0
      · rw [h0] at ih ⊢
        simp only [Lib.splitK] at ih ⊢
        cases ih; rfl
      · obtain ⟨i, hi⟩ := index_of_count t (by omega)
        obtain ⟨k, hk⟩ : ∃ k, t.count 32 = k + 1 := ⟨t.count 32 - 1, by omega⟩
        rw [hk] at ih ⊢
        have hi' : Lib.index (b :: t) [32] = ((i + 1 : Nat) : Int) := by rw [index_nl_cons hb, hi, if_neg (by omega)]; omega
        rw [Lib.splitK, hi] at ih
        rw [Lib.splitK, hi']
        have n1 : ((i : Int) == -1) = false := by simp
        have n2 : (((i + 1 : Nat) : Int) == -1) = false := by simp; omega
        rw [n1] at ih
        rw [n2]
        simp only [Bool.false_eq_true, if_false, Int.toNat_natCast, Nat.add_zero, List.length_cons, List.length_nil, Nat.zero_add] at ih ⊢
        obtain ⟨e1, e2⟩ := List.cons.inj ih
        rw [← e1, ← e2]
        rfl
theorem Split_ok (h : Heap) (s : ByteArray) (hs : s.size ≤ 1000000) : ACall Tryz.prog 50 [.string s, .string ⟨#[32]⟩] h fun r h' => ∃ ps : List ByteArray, Fresh h h' encS 1 r ps ∧ ps.map (·.data.toList) = spl s.data.toList := by
  obtain ⟨ps, hps⟩ : ∃ ps, ps = Lib.splitB ⟨#[32]⟩ 0 (Lib.countB s ⟨#[32]⟩) s := ⟨_, rfl⟩
  have hlen : ps.length = Lib.countB s ⟨#[32]⟩ + 1 := by rw [hps]; exact Lib.splitB_all _ (by decide) 0 _ s rfl
  have hdata : ps.map (·.data.toList) = spl s.data.toList := by
    rw [hps, Lib.splitB_data, ← splitK_spl, ← Lib.count_one]
  refine (ACall.strs (f := 50) (args := [.string s, .string ⟨#[32]⟩]) (ss := ps) (ty := r146.t 9) rfl (fun w g => ?_) h).mono ?_
  · obtain ⟨n, hn⟩ := (show ∃ n : Int, w.cell? ⟨0, 0, none⟩ = some (.int .i64 n) from g.2)
    rw [hlen, hps]
    exact Any.strings_Split L146 (by kernel_rfl) s ⟨#[32]⟩ n w (by omega) hn (by decide)
  · rintro r h' ⟨rfl, rfl⟩
    refine ⟨ps, ?_, hdata⟩
    have := Fresh.new h ps encS_len (by omega)
    have e : ps.flatMap encS = ps.map Value.string := by
      clear hps hlen hdata this
      induction ps with
      | nil => rfl
      | cons p ps ih => rw [List.flatMap_cons, ih]; rfl
    rw [e] at this; exact this
end Go.Proofs.YtgmimgmdbpcecaaGreatDoor
end

section
namespace Go.Proofs.YtgmimgmdbpcecaaGreatDoor
open Go Go.Ah Go.RowKit
set_option linter.unusedSimpArgs false
set_option linter.unusedVariables false
set_option maxRecDepth 10000
set_option maxHeartbeats 4000000
theorem below_drewN (w : World) (n : Nat) : Below w.heap.size w (w.drewN n) := ⟨rfl, rfl, rfl, Nat.le_refl _, fun _ _ => rfl⟩
/-- A function of the library that answers a row of plain values. -/
theorem ACall.pureTup {P : Program} {f : FuncId} {args : List Value} {vs : List Value} (ha : args.all sameB = true) (hv : vs.all sameB = true)
    (H : ∀ w : World, Gl w → Calls P f args.toArray w fun e w' => e = .returned (.tuple vs.toArray) ∧ Below w.heap.size w w') (h : Heap) : ACall P f args h fun r h' => h' = h ∧ r = .tuple vs.toArray := by
  intro W0 m w args' r va
  rw [va.same ha]
  refine (H w r.glw).mono ?_
  rintro e w' ⟨rfl, b⟩
  refine ⟨_, _, h, m, rfl, r.belowW b, .refl m h, .tuple _ _ rfl fun i h1 h2 => ?_, rfl, rfl⟩
  refine .refl_same m (List.all_eq_true.mp hv _ ?_)
  simp
theorem Cut_ok (h : Heap) (s : ByteArray) (hs : s.size ≤ 1000000) : ACall Tryz.prog 23 [.string s, .string ⟨#[10]⟩] h fun r h' => h' = h ∧ r = .tuple #[.string (bL (Go.Lib.cut s.data.toList [10]).1), .string (bL (Go.Lib.cut s.data.toList [10]).2.1), .bool (Go.Lib.cut s.data.toList [10]).2.2] := by
  refine ACall.pureTup (f := 23) (args := [.string s, .string ⟨#[10]⟩]) (vs := [.string (bL (Go.Lib.cut s.data.toList [10]).1), .string (bL (Go.Lib.cut s.data.toList [10]).2.1), .bool (Go.Lib.cut s.data.toList [10]).2.2]) rfl rfl (fun w g => ?_) h
  obtain ⟨n, hn⟩ := (show ∃ n : Int, w.cell? ⟨0, 0, none⟩ = some (.int .i64 n) from g.2)
  refine (Any.strings_Cut L145 s ⟨#[10]⟩ n w (by omega) hn).mono ?_
  rintro e w' ⟨rfl, k, rfl⟩
  exact ⟨rfl, below_drewN w k⟩
end Go.Proofs.YtgmimgmdbpcecaaGreatDoor
end

section
namespace Go.Proofs.YtgmimgmdbpcecaaGreatDoor
open Go Go.Ah
set_option linter.unusedSimpArgs false
set_option linter.unusedVariables false
set_option maxRecDepth 10000
set_option maxHeartbeats 4000000
/-! 75 loop.example/g00066/impl.digits: parameters 1, live [0], slots [0:s, 1:s, 4:out, 5:i] -/
def c75_0 : List SOper := [⟨some 2, .q (.mv (.c (.int .i64 0))), none⟩, ⟨some 3, .q (.mv (.c (.bool false))), none⟩]
def c75_1 : List SOper := [⟨some 4, .q (.mv (.c (.int .i64 0))), none⟩]
def c75_2 : List SOper := [⟨some 6, .q (.mv (.t 0)), none⟩, ⟨some 7, .q (.bin .eql (.t 6) (.c (.string ⟨#[]⟩))), none⟩, ⟨some 8, .q (.mv (.t 7)), none⟩, ⟨some 9, .q (.mv (.t 0)), some (8, false)⟩, ⟨some 10, .q (.lens (.t 9)), some (8, false)⟩, ⟨some 11, .q (.bin .gtr (.t 10) (.c (.int .i64 9))), some (8, false)⟩, ⟨some 12, .q (.pick (.t 8) (.c (.bool true)) (.t 11)), none⟩]
def c75_3 : List SOper := [⟨some 2, .q (.mv (.c (.int .i64 0))), none⟩, ⟨some 3, .q (.mv (.c (.bool false))), none⟩]
def c75_4 : SCode := .seq (.region c75_3 [2, 3]) .ret
def c75_5 : SCode := .cond (.t 12) c75_4 .skip
def c75_6 : SCode := .seq (.region c75_2 [0, 4, 12]) c75_5
def c75_7 : List SOper := [⟨some 13, .q (.mv (.t 0)), none⟩, ⟨some 14, .q (.lens (.t 13)), none⟩, ⟨some 15, .q (.mv (.c (.int .i64 0))), none⟩]
def c75_8 : List SOper := [⟨some 16, .q (.bin .lss (.t 15) (.t 14)), none⟩]
def c75_9 : SCode := .cond (.t 16) .skip (.exit 0)
def c75_10 : List SOper := [⟨some 17, .q (.mv (.t 15)), none⟩, ⟨some 5, .q (.mv (.t 17)), none⟩]
def c75_11 : List SOper := [⟨some 18, .q (.mv (.t 0)), none⟩, ⟨some 19, .q (.mv (.t 5)), none⟩, ⟨some 20, .q (.ivs (.t 18) (.t 19)), none⟩, ⟨some 21, .q (.bin .lss (.t 20) (.c (.int .u8 48))), none⟩, ⟨some 22, .q (.mv (.t 21)), none⟩, ⟨some 23, .q (.mv (.t 0)), some (22, false)⟩, ⟨some 24, .q (.mv (.t 5)), some (22, false)⟩, ⟨some 25, .q (.ivs (.t 23) (.t 24)), some (22, false)⟩, ⟨some 26, .q (.bin .gtr (.t 25) (.c (.int .u8 57))), some (22, false)⟩, ⟨some 27, .q (.pick (.t 22) (.c (.bool true)) (.t 26)), none⟩]
def c75_12 : List SOper := [⟨some 2, .q (.mv (.c (.int .i64 0))), none⟩, ⟨some 3, .q (.mv (.c (.bool false))), none⟩]
def c75_13 : SCode := .seq (.region c75_12 [2, 3]) .ret
def c75_14 : SCode := .cond (.t 27) c75_13 .skip
def c75_15 : SCode := .seq (.region c75_11 [0, 4, 5, 14, 15, 27]) c75_14
def c75_16 : List SOper := [⟨some 28, .q (.mv (.t 4)), none⟩, ⟨some 29, .q (.bin .mul (.c (.int .i64 10)) (.t 28)), none⟩, ⟨some 30, .q (.mv (.t 0)), none⟩, ⟨some 31, .q (.mv (.t 5)), none⟩, ⟨some 32, .q (.ivs (.t 30) (.t 31)), none⟩, ⟨some 33, .q (.bin .sub (.t 32) (.c (.int .u8 48))), none⟩, ⟨some 34, .q (.cvi .i64 (.t 33)), none⟩, ⟨some 35, .q (.bin .add (.t 29) (.t 34)), none⟩, ⟨some 4, .q (.mv (.t 35)), none⟩]
def c75_17 : SCode := .seq c75_15 (.region c75_16 [0, 4, 14, 15])
def c75_18 : SCode := .seq (.region c75_10 [0, 4, 5, 14, 15]) c75_17
def c75_19 : SCode := .block 1 c75_18
def c75_20 : List SOper := [⟨some 36, .q (.bin .add (.t 15) (.c (.int .i64 1))), none⟩, ⟨some 15, .q (.mv (.t 36)), none⟩]
def c75_21 : SCode := .seq c75_19 (.region c75_20 [0, 4, 14, 15])
def c75_22 : SCode := .seq c75_9 c75_21
def c75_23 : SCode := .seq (.region c75_8 [0, 4, 14, 15, 16]) c75_22
def c75_24 : SCode := .loop c75_23
def c75_25 : SCode := .block 0 c75_24
def c75_26 : SCode := .seq (.region c75_7 [0, 4, 14, 15]) c75_25
def c75_27 : List SOper := [⟨some 37, .q (.mv (.t 4)), none⟩, ⟨some 2, .q (.mv (.t 37)), none⟩, ⟨some 3, .q (.mv (.c (.bool true))), none⟩]
def c75_28 : SCode := .seq (.region c75_27 [2, 3]) .ret
def c75_29 : SCode := .seq c75_26 c75_28
def c75_30 : SCode := .seq c75_6 c75_29
def c75_31 : SCode := .seq (.region c75_1 [0, 4]) c75_30
def c75_32 : SCode := .seq (.region c75_0 [0]) c75_31
def c75 : SCode := c75_32
theorem w75 : type_of% (And.intro (uR Tryz.prog c75_0.eq_1) (And.intro (uR Tryz.prog c75_1.eq_1) (And.intro (uR Tryz.prog c75_2.eq_1) (And.intro (uR Tryz.prog c75_3.eq_1) (And.intro (uC Tryz.prog c75_4.eq_1) (And.intro (uC Tryz.prog c75_5.eq_1) (And.intro (uC Tryz.prog c75_6.eq_1) (And.intro (uR Tryz.prog c75_7.eq_1) (And.intro (uR Tryz.prog c75_8.eq_1) (And.intro (uC Tryz.prog c75_9.eq_1) (And.intro (uR Tryz.prog c75_10.eq_1) (And.intro (uR Tryz.prog c75_11.eq_1) (And.intro (uR Tryz.prog c75_12.eq_1) (And.intro (uC Tryz.prog c75_13.eq_1) (And.intro (uC Tryz.prog c75_14.eq_1) (And.intro (uC Tryz.prog c75_15.eq_1) (And.intro (uR Tryz.prog c75_16.eq_1) (And.intro (uC Tryz.prog c75_17.eq_1) (And.intro (uC Tryz.prog c75_18.eq_1) (And.intro (uC Tryz.prog c75_19.eq_1) (And.intro (uR Tryz.prog c75_20.eq_1) (And.intro (uC Tryz.prog c75_21.eq_1) (And.intro (uC Tryz.prog c75_22.eq_1) (And.intro (uC Tryz.prog c75_23.eq_1) (And.intro (uC Tryz.prog c75_24.eq_1) (And.intro (uC Tryz.prog c75_25.eq_1) (And.intro (uC Tryz.prog c75_26.eq_1) (And.intro (uR Tryz.prog c75_27.eq_1) (And.intro (uC Tryz.prog c75_28.eq_1) (And.intro (uC Tryz.prog c75_29.eq_1) (And.intro (uC Tryz.prog c75_30.eq_1) (And.intro (uC Tryz.prog c75_31.eq_1) (And.intro (uC Tryz.prog c75_32.eq_1) (uC Tryz.prog c75.eq_1)))))))))))))))))))))))))))))))))) := (And.intro (uR Tryz.prog c75_0.eq_1) (And.intro (uR Tryz.prog c75_1.eq_1) (And.intro (uR Tryz.prog c75_2.eq_1) (And.intro (uR Tryz.prog c75_3.eq_1) (And.intro (uC Tryz.prog c75_4.eq_1) (And.intro (uC Tryz.prog c75_5.eq_1) (And.intro (uC Tryz.prog c75_6.eq_1) (And.intro (uR Tryz.prog c75_7.eq_1) (And.intro (uR Tryz.prog c75_8.eq_1) (And.intro (uC Tryz.prog c75_9.eq_1) (And.intro (uR Tryz.prog c75_10.eq_1) (And.intro (uR Tryz.prog c75_11.eq_1) (And.intro (uR Tryz.prog c75_12.eq_1) (And.intro (uC Tryz.prog c75_13.eq_1) (And.intro (uC Tryz.prog c75_14.eq_1) (And.intro (uC Tryz.prog c75_15.eq_1) (And.intro (uR Tryz.prog c75_16.eq_1) (And.intro (uC Tryz.prog c75_17.eq_1) (And.intro (uC Tryz.prog c75_18.eq_1) (And.intro (uC Tryz.prog c75_19.eq_1) (And.intro (uR Tryz.prog c75_20.eq_1) (And.intro (uC Tryz.prog c75_21.eq_1) (And.intro (uC Tryz.prog c75_22.eq_1) (And.intro (uC Tryz.prog c75_23.eq_1) (And.intro (uC Tryz.prog c75_24.eq_1) (And.intro (uC Tryz.prog c75_25.eq_1) (And.intro (uC Tryz.prog c75_26.eq_1) (And.intro (uR Tryz.prog c75_27.eq_1) (And.intro (uC Tryz.prog c75_28.eq_1) (And.intro (uC Tryz.prog c75_29.eq_1) (And.intro (uC Tryz.prog c75_30.eq_1) (And.intro (uC Tryz.prog c75_31.eq_1) (And.intro (uC Tryz.prog c75_32.eq_1) (uC Tryz.prog c75.eq_1))))))))))))))))))))))))))))))))))
def v75 : List RV := [.t 2, .t 3]
theorem s75 : slimF Tryz.prog Tryz.f75 = some (c75.bare, v75) := by kernel_rfl

theorem ivs_bL (l : List UInt8) (k : IntKind) (i : Nat) (hi : i < l.length) : ivsV (.string (bL l)) (.int k (i : Int)) = some (.int .u8 (l[i].toNat : Int)) := by
  have hs : i < (bL l).size := by rw [bL_size]; exact hi
  simp only [ivsV]
  rw [if_pos (by omega), Int.toNat_natCast, getElem?_pos (bL l) i hs]
  rfl
def isD (b : UInt8) : Prop := 48 ≤ (b.toNat : Int) ∧ (b.toNat : Int) ≤ 57
instance (b : UInt8) : Decidable (isD b) := by unfold isD; infer_instance
def stepD' (a : Nat) (b : UInt8) : Nat := 10 * a + (b.toNat - 48)
def valD (l : List UInt8) : Nat := l.foldl stepD' 0
theorem valD_take {l : List UInt8} {i : Nat} (hi : i < l.length) : valD (l.take (i + 1)) = 10 * valD (l.take i) + (l[i].toNat - 48) := by
  unfold valD; rw [List.take_succ_eq_append_getElem hi, List.foldl_append]; rfl
theorem valD_lt : ∀ (l : List UInt8), (∀ b ∈ l, isD b) → valD l < 10 ^ l.length := by
  have key : ∀ (l : List UInt8) (a n : Nat), (∀ b ∈ l, isD b) → a < 10 ^ n → l.foldl stepD' a < 10 ^ (n + l.length) := by
    intro l
    induction l with
    | nil => intro a n _ h; simpa using h
    | cons b l ih =>
      intro a n hd h
      rw [List.foldl_cons, List.length_cons, show n + (l.length + 1) = (n + 1) + l.length by omega]
      refine ih _ _ (fun c hc => hd c (List.mem_cons_of_mem _ hc)) ?_
      have hb := hd b List.mem_cons_self
      unfold isD at hb
      unfold stepD'
      rw [Nat.pow_succ]; omega
  intro l h
  have := key l 0 0 h (by simp)
  rw [Nat.zero_add] at this; exact this
def digOk (l : List UInt8) : Prop := l ≠ [] ∧ l.length ≤ 9 ∧ ∀ b ∈ l, isD b
instance (l : List UInt8) : Decidable (digOk l) := by unfold digOk; infer_instance
theorem valD_lt9 {l : List UInt8} (h : ∀ b ∈ l, isD b) (hl : l.length ≤ 9) : valD l < 1000000000 :=
  Nat.lt_of_lt_of_le (valD_lt l h) (Nat.pow_le_pow_right (by omega) hl : 10 ^ l.length ≤ 10 ^ 9)
theorem digits_ok (h : Heap) (l : List UInt8) (hl : l.length ≤ 1000000) : ACall Tryz.prog 75 [.string (bL l)] h fun r h' => h' = h ∧ r = .tuple #[.int .i64 (if digOk l then (valD l : Int) else 0), .bool (decide (digOk l))] := by
  have hsz : (bL l).size = l.length := bL_size l
  have bad : ¬ digOk l → (.tuple #[.int .i64 0, .bool false] : Value) = .tuple #[.int .i64 (if digOk l then (valD l : Int) else 0), .bool (decide (digOk l))] := fun q => by rw [if_neg q, decide_eq_false q]
  refine ACall.of Tryz.func75 s75 (of_decide_eq_true rfl) ?_
  by_cases c1 : l = []
  · simp (maxSteps := 4000000) (disch := omega) only [ah, am, Nat.reduceEqDiff, reduceCtorEq, Nat.reduceAdd, Nat.reduceLeDiff, Nat.reduceMul, Nat.reduceLT, if_true, if_false, true_and, and_true, and_self, Nat.reduceBEq, QOp.loads, boxO, bslO, buildO, cutL, fillV, putL, w75, v75, strB_nil, decide_eq_true c1]
    exact bad fun q => q.1 c1
  by_cases c2 : (9 : Int) < l.length
  · simp (maxSteps := 4000000) (disch := omega) only [ah, am, Nat.reduceEqDiff, reduceCtorEq, Nat.reduceAdd, Nat.reduceLeDiff, Nat.reduceMul, Nat.reduceLT, if_true, if_false, true_and, and_true, and_self, Nat.reduceBEq, QOp.loads, boxO, bslO, buildO, cutL, fillV, putL, w75, v75, strB_nil, decide_eq_false c1, hsz, decide_eq_true c2]
    exact bad fun q => by have := q.2.1; omega
  simp (maxSteps := 4000000) (disch := omega) only [ah, am, Nat.reduceEqDiff, reduceCtorEq, Nat.reduceAdd, Nat.reduceLeDiff, Nat.reduceMul, Nat.reduceLT, if_true, if_false, true_and, and_true, and_self, Nat.reduceBEq, QOp.loads, boxO, bslO, buildO, cutL, fillV, putL, w75, v75, strB_nil, decide_eq_false c1, hsz, decide_eq_false c2]
  refine SW_loop_up (fun i E K => K = h ∧ (∀ b ∈ l.take i, isD b) ∧ E = [(0, .string (bL l)), (4, .int .i64 (valD (l.take i) : Int)), (14, .int .i64 (l.length : Int)), (15, .int .i64 (i : Int))]) l.length 0 (by omega) ⟨rfl, by simp, rfl⟩ ?_
  rintro i E K hi ⟨rfl, A, rfl⟩
  have wi : IntKind.i64.wrap ((i : Int) + 1) = ((i + 1 : Nat) : Int) := i64e (by omega) (by omega)
  simp (maxSteps := 4000000) (disch := omega) only [ah, am, Nat.reduceEqDiff, reduceCtorEq, Nat.reduceAdd, Nat.reduceLeDiff, Nat.reduceMul, Nat.reduceLT, if_true, if_false, true_and, and_true, and_self, Nat.reduceBEq, QOp.loads, boxO, bslO, buildO, cutL, fillV, putL, w75, v75]
  refine stepI.split (fun hp => ?_) (fun hp => ?_)
  · have hi2 : i < l.length := by omega
    have IV := ivs_bL l .i64 i hi2
    have bad2 : ¬ isD l[i] → ¬ digOk l := fun q t => q (t.2.2 _ (List.getElem_mem hi2))
    by_cases d1 : (l[i].toNat : Int) < 48
    · simp (maxSteps := 4000000) (disch := omega) only [ah, am, Nat.reduceEqDiff, reduceCtorEq, Nat.reduceAdd, Nat.reduceLeDiff, Nat.reduceMul, Nat.reduceLT, if_true, if_false, true_and, and_true, and_self, Nat.reduceBEq, QOp.loads, boxO, bslO, buildO, cutL, fillV, putL, w75, v75, IV, decide_eq_true d1]
      exact bad (bad2 fun q => by unfold isD at q; omega)
    by_cases d2 : (57 : Int) < (l[i].toNat : Int)
    · simp (maxSteps := 4000000) (disch := omega) only [ah, am, Nat.reduceEqDiff, reduceCtorEq, Nat.reduceAdd, Nat.reduceLeDiff, Nat.reduceMul, Nat.reduceLT, if_true, if_false, true_and, and_true, and_self, Nat.reduceBEq, QOp.loads, boxO, bslO, buildO, cutL, fillV, putL, w75, v75, IV, decide_eq_false d1, decide_eq_true d2]
      exact bad (bad2 fun q => by unfold isD at q; omega)
    have hv := valD_lt9 A (by rw [List.length_take]; omega)
    have w1 : IntKind.i64.wrap (10 * (valD (l.take i) : Int)) = ((10 * valD (l.take i) : Nat) : Int) := i64e (by omega) (by omega)
    have w2 : IntKind.u8.wrap ((l[i].toNat : Int) - 48) = ((l[i].toNat - 48 : Nat) : Int) := by rw [u8w (by omega)]; omega
    have w3 : IntKind.i64.wrap ((l[i].toNat - 48 : Nat) : Int) = ((l[i].toNat - 48 : Nat) : Int) := i64e rfl (by omega)
    have w4 : IntKind.i64.wrap (((10 * valD (l.take i) : Nat) : Int) + ((l[i].toNat - 48 : Nat) : Int)) = (valD (l.take (i + 1)) : Int) := i64e (by rw [valD_take hi2]; omega) (by rw [valD_take hi2]; omega)
    simp (maxSteps := 4000000) (disch := omega) only [ah, am, Nat.reduceEqDiff, reduceCtorEq, Nat.reduceAdd, Nat.reduceLeDiff, Nat.reduceMul, Nat.reduceLT, if_true, if_false, true_and, and_true, and_self, Nat.reduceBEq, QOp.loads, boxO, bslO, buildO, cutL, fillV, putL, w75, v75, IV, decide_eq_false d1, decide_eq_false d2, w1, w2, w3, w4, wi]
    refine ⟨hi2, fun b hb => ?_⟩
    rw [List.take_succ_eq_append_getElem hi2] at hb
    rcases List.mem_append.mp hb with hb | hb
    · exact A b hb
    · rw [List.mem_singleton] at hb; rw [hb]; unfold isD; omega
  · have hii : i = l.length := by omega
    subst hii
    rw [List.take_length] at A ⊢
    simp (maxSteps := 4000000) (disch := omega) only [ah, am, Nat.reduceEqDiff, reduceCtorEq, Nat.reduceAdd, Nat.reduceLeDiff, Nat.reduceMul, Nat.reduceLT, if_true, if_false, true_and, and_true, and_self, Nat.reduceBEq, QOp.loads, boxO, bslO, buildO, cutL, fillV, putL, w75, v75]
    have ok : digOk l := ⟨c1, by omega, A⟩
    rw [if_pos ok, decide_eq_true ok]
end Go.Proofs.YtgmimgmdbpcecaaGreatDoor
end

section
namespace Go.Proofs.YtgmimgmdbpcecaaGreatDoor
open Go Go.Ah
set_option linter.unusedSimpArgs false
set_option linter.unusedVariables false
set_option maxRecDepth 10000
set_option maxHeartbeats 4000000
/-! 53 loop.example/g00066/impl.TimeRead: parameters 2, live [0, 1], slots [0:r, 1:text, 2:r, 3:text, 6:fields, 7:k, 8:s, 9:n, 10:ok, 11:minutes, 12:frame] -/
def c53_0 : List SOper := [⟨some 2, .a (.box (.t 0)), none⟩, ⟨some 4, .q (.mv (.c (.int .i64 0))), none⟩, ⟨some 5, .q (.mv (.c (.bool false))), none⟩]
def c53_1 : List SOper := [⟨some 13, .q (.ldn 3 (.t 2)), none⟩, ⟨some 14, .e (.call 21 [(.t 13)]), none⟩, ⟨some 15, .q (.not (.t 14)), none⟩, ⟨some 16, .q (.mv (.t 15)), none⟩, ⟨some 17, .q (.mv (.t 1)), some (16, false)⟩, ⟨some 18, .q (.lens (.t 17)), some (16, false)⟩, ⟨some 19, .e (.call 46 [(.t 18), (.c (.int .i64 11)), (.c (.int .i64 12))]), some (16, false)⟩, ⟨some 20, .q (.not (.t 19)), some (16, false)⟩, ⟨some 21, .q (.pick (.t 16) (.c (.bool true)) (.t 20)), none⟩]
def c53_2 : List SOper := [⟨some 4, .q (.mv (.c (.int .i64 0))), none⟩, ⟨some 5, .q (.mv (.c (.bool false))), none⟩]
def c53_3 : SCode := .seq (.region c53_2 [4, 5]) .ret
def c53_4 : SCode := .cond (.t 21) c53_3 .skip
def c53_5 : SCode := .seq (.region c53_1 [1, 2, 21]) c53_4
def c53_6 : List SOper := [⟨some 22, .q (.build [(.int .i64 0), (.int .i64 0), (.int .i64 0), (.int .i64 0)] []), none⟩, ⟨some 6, .a (.new [(.int .i64 0), (.int .i64 0), (.int .i64 0), (.int .i64 0)]), none⟩, ⟨none, .e (.st 4 (.t 6) (.t 22)), none⟩]
def c53_7 : List SOper := [⟨some 23, .q (.mv (.t 1)), none⟩, ⟨some 24, .q (.sls (.t 23) none (some (.c (.int .i64 2)))), none⟩, ⟨some 25, .q (.mv (.t 1)), none⟩, ⟨some 26, .q (.sls (.t 25) (some (.c (.int .i64 3))) (some (.c (.int .i64 5)))), none⟩, ⟨some 27, .q (.mv (.t 1)), none⟩, ⟨some 28, .q (.sls (.t 27) (some (.c (.int .i64 6))) (some (.c (.int .i64 8)))), none⟩, ⟨some 29, .q (.mv (.t 1)), none⟩, ⟨some 30, .q (.sls (.t 29) (some (.c (.int .i64 9))) none), none⟩, ⟨some 31, .a (.bsl 4 1 [(.string ⟨#[]⟩), (.string ⟨#[]⟩), (.string ⟨#[]⟩), (.string ⟨#[]⟩)] [(0, 1, (.t 24)), (1, 1, (.t 26)), (2, 1, (.t 28)), (3, 1, (.t 30))]), none⟩, ⟨some 32, .q (.len (.t 31)), none⟩, ⟨some 33, .q (.mv (.c (.int .i64 0))), none⟩]
def c53_8 : List SOper := [⟨some 34, .q (.bin .lss (.t 33) (.t 32)), none⟩]
def c53_9 : SCode := .cond (.t 34) .skip (.exit 0)
def c53_10 : List SOper := [⟨some 35, .q (.mv (.t 33)), none⟩, ⟨some 36, .q (.ia 1 (.t 31) (.t 33)), none⟩, ⟨some 37, .q (.ld (.t 36)), none⟩, ⟨some 7, .q (.mv (.t 35)), none⟩, ⟨some 8, .q (.mv (.t 37)), none⟩]
def c53_11 : List SOper := [⟨some 39, .q (.mv (.t 8)), none⟩, ⟨some 40, .e (.call 75 [(.t 39)]), none⟩, ⟨some 38, .q (.mv (.t 40)), none⟩, ⟨some 41, .q (.ext (.t 38) 0), none⟩, ⟨some 42, .q (.ext (.t 38) 1), none⟩, ⟨some 9, .q (.mv (.t 41)), none⟩, ⟨some 10, .q (.mv (.t 42)), none⟩]
def c53_12 : List SOper := [⟨some 43, .q (.mv (.t 10)), none⟩, ⟨some 44, .q (.not (.t 43)), none⟩]
def c53_13 : List SOper := [⟨some 4, .q (.mv (.c (.int .i64 0))), none⟩, ⟨some 5, .q (.mv (.c (.bool false))), none⟩]
def c53_14 : SCode := .seq (.region c53_13 [4, 5]) .ret
def c53_15 : SCode := .cond (.t 44) c53_14 .skip
def c53_16 : SCode := .seq (.region c53_12 [1, 2, 6, 7, 9, 31, 32, 33, 44]) c53_15
def c53_17 : List SOper := [⟨some 45, .q (.mv (.t 7)), none⟩, ⟨some 46, .q (.mv (.t 9)), none⟩, ⟨some 47, .q (.iaa 4 1 (.t 6) (.t 45)), none⟩, ⟨none, .e (.st 1 (.t 47) (.t 46)), none⟩]
def c53_18 : SCode := .seq c53_16 (.region c53_17 [1, 2, 6, 31, 32, 33])
def c53_19 : SCode := .seq (.region c53_11 [1, 2, 6, 7, 9, 10, 31, 32, 33]) c53_18
def c53_20 : SCode := .seq (.region c53_10 [1, 2, 6, 7, 8, 31, 32, 33]) c53_19
def c53_21 : SCode := .block 1 c53_20
def c53_22 : List SOper := [⟨some 48, .q (.bin .add (.t 33) (.c (.int .i64 1))), none⟩, ⟨some 33, .q (.mv (.t 48)), none⟩]
def c53_23 : SCode := .seq c53_21 (.region c53_22 [1, 2, 6, 31, 32, 33])
def c53_24 : SCode := .seq c53_9 c53_23
def c53_25 : SCode := .seq (.region c53_8 [1, 2, 6, 31, 32, 33, 34]) c53_24
def c53_26 : SCode := .loop c53_25
def c53_27 : SCode := .block 0 c53_26
def c53_28 : SCode := .seq (.region c53_7 [1, 2, 6, 31, 32, 33]) c53_27
def c53_29 : List SOper := [⟨some 49, .q (.iaa 4 1 (.t 6) (.c (.int .i64 0))), none⟩, ⟨some 50, .q (.ld (.t 49)), none⟩, ⟨some 51, .q (.bin .mul (.c (.int .i64 60)) (.t 50)), none⟩, ⟨some 52, .q (.iaa 4 1 (.t 6) (.c (.int .i64 1))), none⟩, ⟨some 53, .q (.ld (.t 52)), none⟩, ⟨some 54, .q (.bin .add (.t 51) (.t 53)), none⟩, ⟨some 11, .q (.mv (.t 54)), none⟩]
def c53_30 : List DOper := [⟨0, ⟨some 55, .q (.mv (.t 11)), none⟩, [], []⟩, ⟨1, ⟨some 56, .q (.bin .mul (.c (.int .i64 60)) (.t 55)), none⟩, [], []⟩, ⟨2, ⟨some 57, .q (.iaa 4 1 (.t 6) (.c (.int .i64 2))), none⟩, [], []⟩, ⟨3, ⟨some 58, .q (.ld (.t 57)), none⟩, [], []⟩, ⟨4, ⟨some 59, .q (.bin .add (.t 56) (.t 58)), none⟩, [], []⟩, ⟨5, ⟨some 60, .q (.ldn 3 (.t 2)), none⟩, [], []⟩, ⟨8, ⟨some 63, .q (.iaa 4 1 (.t 6) (.c (.int .i64 3))), none⟩, [], []⟩, ⟨9, ⟨some 64, .q (.ld (.t 63)), none⟩, [], []⟩, ⟨11, ⟨some 66, .q (.ldn 3 (.t 2)), none⟩, [], []⟩, ⟨13, ⟨some 68, .q (.mv (.t 11)), none⟩, [], []⟩, ⟨14, ⟨some 69, .q (.mv (.t 11)), none⟩, [], []⟩, ⟨15, ⟨some 70, .q (.bin .quo (.t 69) (.c (.int .i64 10))), none⟩, [], []⟩, ⟨16, ⟨some 71, .q (.bin .sub (.t 68) (.t 70)), none⟩, [], []⟩, ⟨6, ⟨some 61, .e (.call 76 [(.t 60)]), none⟩, [], [11, 9, 3]⟩, ⟨7, ⟨some 62, .q (.bin .mul (.t 59) (.t 61)), none⟩, [], []⟩, ⟨10, ⟨some 65, .q (.bin .add (.t 62) (.t 64)), none⟩, [], []⟩, ⟨12, ⟨some 67, .e (.call 77 [(.t 66)]), none⟩, [], [9, 3]⟩, ⟨17, ⟨some 72, .q (.bin .mul (.t 67) (.t 71)), none⟩, [], []⟩, ⟨18, ⟨some 73, .q (.bin .sub (.t 65) (.t 72)), none⟩, [], []⟩, ⟨19, ⟨some 12, .q (.mv (.t 73)), none⟩, [], []⟩]
def c53_31 : List SOper := [⟨some 74, .q (.ldn 3 (.t 2)), none⟩, ⟨some 75, .q (.mv (.t 12)), none⟩, ⟨some 76, .e (.call 62 [(.t 74), (.t 75)]), none⟩, ⟨some 77, .q (.mv (.t 1)), none⟩, ⟨some 78, .q (.bin .neq (.t 76) (.t 77)), none⟩]
def c53_32 : List SOper := [⟨some 4, .q (.mv (.c (.int .i64 0))), none⟩, ⟨some 5, .q (.mv (.c (.bool false))), none⟩]
def c53_33 : SCode := .seq (.region c53_32 [4, 5]) .ret
def c53_34 : SCode := .cond (.t 78) c53_33 .skip
def c53_35 : SCode := .seq (.region c53_31 [12, 78]) c53_34
def c53_36 : List SOper := [⟨some 79, .q (.mv (.t 12)), none⟩, ⟨some 4, .q (.mv (.t 79)), none⟩, ⟨some 5, .q (.mv (.c (.bool true))), none⟩]
def c53_37 : SCode := .seq (.region c53_36 [4, 5]) .ret
def c53_38 : SCode := .seq c53_35 c53_37
def c53_39 : SCode := .seq (.dregion c53_30 [1, 2, 12]) c53_38
def c53_40 : SCode := .seq (.region c53_29 [1, 2, 6, 11]) c53_39
def c53_41 : SCode := .seq c53_28 c53_40
def c53_42 : SCode := .seq (.region c53_6 [1, 2, 6]) c53_41
def c53_43 : SCode := .seq c53_5 c53_42
def c53_44 : SCode := .seq (.region c53_0 [1, 2]) c53_43
def c53 : SCode := c53_44
theorem w53 : type_of% (And.intro (uR Tryz.prog c53_0.eq_1) (And.intro (uR Tryz.prog c53_1.eq_1) (And.intro (uR Tryz.prog c53_2.eq_1) (And.intro (uC Tryz.prog c53_3.eq_1) (And.intro (uC Tryz.prog c53_4.eq_1) (And.intro (uC Tryz.prog c53_5.eq_1) (And.intro (uR Tryz.prog c53_6.eq_1) (And.intro (uR Tryz.prog c53_7.eq_1) (And.intro (uR Tryz.prog c53_8.eq_1) (And.intro (uC Tryz.prog c53_9.eq_1) (And.intro (uR Tryz.prog c53_10.eq_1) (And.intro (uR Tryz.prog c53_11.eq_1) (And.intro (uR Tryz.prog c53_12.eq_1) (And.intro (uR Tryz.prog c53_13.eq_1) (And.intro (uC Tryz.prog c53_14.eq_1) (And.intro (uC Tryz.prog c53_15.eq_1) (And.intro (uC Tryz.prog c53_16.eq_1) (And.intro (uR Tryz.prog c53_17.eq_1) (And.intro (uC Tryz.prog c53_18.eq_1) (And.intro (uC Tryz.prog c53_19.eq_1) (And.intro (uC Tryz.prog c53_20.eq_1) (And.intro (uC Tryz.prog c53_21.eq_1) (And.intro (uR Tryz.prog c53_22.eq_1) (And.intro (uC Tryz.prog c53_23.eq_1) (And.intro (uC Tryz.prog c53_24.eq_1) (And.intro (uC Tryz.prog c53_25.eq_1) (And.intro (uC Tryz.prog c53_26.eq_1) (And.intro (uC Tryz.prog c53_27.eq_1) (And.intro (uC Tryz.prog c53_28.eq_1) (And.intro (uR Tryz.prog c53_29.eq_1) (And.intro (uD Tryz.prog c53_30.eq_1) (And.intro (uR Tryz.prog c53_31.eq_1) (And.intro (uR Tryz.prog c53_32.eq_1) (And.intro (uC Tryz.prog c53_33.eq_1) (And.intro (uC Tryz.prog c53_34.eq_1) (And.intro (uC Tryz.prog c53_35.eq_1) (And.intro (uR Tryz.prog c53_36.eq_1) (And.intro (uC Tryz.prog c53_37.eq_1) (And.intro (uC Tryz.prog c53_38.eq_1) (And.intro (uC Tryz.prog c53_39.eq_1) (And.intro (uC Tryz.prog c53_40.eq_1) (And.intro (uC Tryz.prog c53_41.eq_1) (And.intro (uC Tryz.prog c53_42.eq_1) (And.intro (uC Tryz.prog c53_43.eq_1) (And.intro (uC Tryz.prog c53_44.eq_1) (uC Tryz.prog c53.eq_1)))))))))))))))))))))))))))))))))))))))))))))) := (And.intro (uR Tryz.prog c53_0.eq_1) (And.intro (uR Tryz.prog c53_1.eq_1) (And.intro (uR Tryz.prog c53_2.eq_1) (And.intro (uC Tryz.prog c53_3.eq_1) (And.intro (uC Tryz.prog c53_4.eq_1) (And.intro (uC Tryz.prog c53_5.eq_1) (And.intro (uR Tryz.prog c53_6.eq_1) (And.intro (uR Tryz.prog c53_7.eq_1) (And.intro (uR Tryz.prog c53_8.eq_1) (And.intro (uC Tryz.prog c53_9.eq_1) (And.intro (uR Tryz.prog c53_10.eq_1) (And.intro (uR Tryz.prog c53_11.eq_1) (And.intro (uR Tryz.prog c53_12.eq_1) (And.intro (uR Tryz.prog c53_13.eq_1) (And.intro (uC Tryz.prog c53_14.eq_1) (And.intro (uC Tryz.prog c53_15.eq_1) (And.intro (uC Tryz.prog c53_16.eq_1) (And.intro (uR Tryz.prog c53_17.eq_1) (And.intro (uC Tryz.prog c53_18.eq_1) (And.intro (uC Tryz.prog c53_19.eq_1) (And.intro (uC Tryz.prog c53_20.eq_1) (And.intro (uC Tryz.prog c53_21.eq_1) (And.intro (uR Tryz.prog c53_22.eq_1) (And.intro (uC Tryz.prog c53_23.eq_1) (And.intro (uC Tryz.prog c53_24.eq_1) (And.intro (uC Tryz.prog c53_25.eq_1) (And.intro (uC Tryz.prog c53_26.eq_1) (And.intro (uC Tryz.prog c53_27.eq_1) (And.intro (uC Tryz.prog c53_28.eq_1) (And.intro (uR Tryz.prog c53_29.eq_1) (And.intro (uD Tryz.prog c53_30.eq_1) (And.intro (uR Tryz.prog c53_31.eq_1) (And.intro (uR Tryz.prog c53_32.eq_1) (And.intro (uC Tryz.prog c53_33.eq_1) (And.intro (uC Tryz.prog c53_34.eq_1) (And.intro (uC Tryz.prog c53_35.eq_1) (And.intro (uR Tryz.prog c53_36.eq_1) (And.intro (uC Tryz.prog c53_37.eq_1) (And.intro (uC Tryz.prog c53_38.eq_1) (And.intro (uC Tryz.prog c53_39.eq_1) (And.intro (uC Tryz.prog c53_40.eq_1) (And.intro (uC Tryz.prog c53_41.eq_1) (And.intro (uC Tryz.prog c53_42.eq_1) (And.intro (uC Tryz.prog c53_43.eq_1) (And.intro (uC Tryz.prog c53_44.eq_1) (uC Tryz.prog c53.eq_1))))))))))))))))))))))))))))))))))))))))))))))
def v53 : List RV := [.t 4, .t 5]
theorem s53 : slimF Tryz.prog Tryz.f53 = some (c53.bare, v53) := by kernel_rfl

theorem ext_bL (l : List UInt8) (a b : Nat) : (bL l).extract a b = bL ((l.drop a).take (b - a)) := by
  apply bytes_inj
  rw [ByteArray.data_extract, bL_data]
  simp [bL, List.extract]
theorem sls_ab (l : List UInt8) (k k' : IntKind) (a b : Nat) (h1 : a ≤ b) (h2 : b ≤ l.length) : slsV (.string (bL l)) (some (.int k (a : Int))) (some (.int k' (b : Int))) = some (.string (bL ((l.drop a).take (b - a)))) := by
  rw [← ext_bL]
  have hs : (bL l).size = l.length := bL_size l
  simp [slsV, bndV, hs, h1, h2]
theorem sls_b (l : List UInt8) (k : IntKind) (b : Nat) (h2 : b ≤ l.length) : slsV (.string (bL l)) none (some (.int k (b : Int))) = some (.string (bL (l.take b))) := by
  have := ext_bL l 0 b
  rw [List.drop_zero, Nat.sub_zero] at this
  rw [← this]
  have hs : (bL l).size = l.length := bL_size l
  simp [slsV, bndV, hs, h2]
theorem sls_a (l : List UInt8) (k : IntKind) (a : Nat) (h1 : a ≤ l.length) : slsV (.string (bL l)) (some (.int k (a : Int))) none = some (.string (bL (l.drop a))) := by
  have hs : (bL l).size = l.length := bL_size l
  have := ext_bL l a l.length
  rw [List.take_of_length_le (by simp)] at this
  rw [← this]
  simp [slsV, bndV, hs, h1]
/-! ### Times read -/
def fieldsL (l : List UInt8) : List (List UInt8) := [l.take 2, (l.drop 3).take 2, (l.drop 6).take 2, l.drop 9]
def minuteN (l : List UInt8) : Nat := 60 * valD (l.take 2) + valD ((l.drop 3).take 2)
def frameI (r : Rate) (l : List UInt8) : Int :=
  ((60 * minuteN l + valD ((l.drop 6).take 2)) * baseN r + valD (l.drop 9) : Nat) - (leftN r * (minuteN l - minuteN l / 10) : Nat)
def timeOkL (r : Rate) (l : List UInt8) : Prop := rateOk r ∧ (11 ≤ l.length ∧ l.length ≤ 12) ∧ (∀ f ∈ fieldsL l, digOk f) ∧ timeL r (frameI r l) = l
instance (r : Rate) (l : List UInt8) : Decidable (timeOkL r l) := by unfold timeOkL; infer_instance
def timeRes (r : Rate) (l : List UInt8) : Value := .tuple #[.int .i64 (if timeOkL r l then frameI r l else 0), .bool (decide (timeOkL r l))]
theorem timeRes_bad {r : Rate} {l : List UInt8} (h : ¬ timeOkL r l) : (.tuple #[.int .i64 0, .bool false] : Value) = timeRes r l := by unfold timeRes; rw [if_neg h, decide_eq_false h]
theorem timeRes_ok {r : Rate} {l : List UInt8} (h : timeOkL r l) : (.tuple #[.int .i64 (frameI r l), .bool true] : Value) = timeRes r l := by unfold timeRes; rw [if_pos h, decide_eq_true h]
def cs4 (a b c d : Int) (j : Nat) : List Value := [.int .i64 (if 0 < j then a else 0), .int .i64 (if 1 < j then b else 0), .int .i64 (if 2 < j then c else 0), .int .i64 (if 3 < j then d else 0)]
theorem cs4_put (vs : List Int) (a b c d : Int) (hv : vs = [a, b, c, d]) (j : Nat) (hj : j < vs.length) : splice (cs4 a b c d j) j [.int .i64 vs[j]] = cs4 a b c d (j + 1) := by
  subst hv
  have : j = 0 ∨ j = 1 ∨ j = 2 ∨ j = 3 := by simp at hj; omega
  rcases this with rfl | rfl | rfl | rfl <;> rfl
theorem TimeRead_ok (h : Heap) (r : Rate) (l : List UInt8) (hl : l.length ≤ 1000000) : ACall Tryz.prog 53 [.agg (encRate r).toArray, .string (bL l)] h fun x h' => Ext h h' ∧ x = timeRes r l := by
  have B := Bx.new h (encRate r) []
  have eM := Ext.more h [encRate r]
  have rk := RateOk_ok (h.more [encRate r]) r
  have hsz : (bL l).size = l.length := bL_size l
  simp only [encRate] at B eM rk
  refine ACall.of Tryz.func53 s53 (of_decide_eq_true rfl) ?_
  simp (maxSteps := 4000000) (disch := omega) only [ah, am, Nat.reduceEqDiff, reduceCtorEq, Nat.reduceAdd, Nat.reduceLeDiff, Nat.reduceMul, Nat.reduceLT, if_true, if_false, true_and, and_true, and_self, Nat.reduceBEq, QOp.loads, boxO, bslO, buildO, cutL, fillV, putL, w53, v53, encRate, B.ld]
  refine stepC.of rk ?_
  rintro _ H1 ⟨e1, rfl⟩
  have B1 := B.ext e1
  have E1 := eM.trans e1
  by_cases hr : rateOk r
  rotate_left
  · simp (maxSteps := 4000000) (disch := omega) only [ah, am, Nat.reduceEqDiff, reduceCtorEq, Nat.reduceAdd, Nat.reduceLeDiff, Nat.reduceMul, Nat.reduceLT, if_true, if_false, true_and, and_true, and_self, Nat.reduceBEq, QOp.loads, boxO, bslO, buildO, cutL, fillV, putL, w53, v53, decide_eq_false hr]
    exact ⟨E1, timeRes_bad fun q => hr q.1⟩
  simp (maxSteps := 4000000) (disch := omega) only [ah, am, Nat.reduceEqDiff, reduceCtorEq, Nat.reduceAdd, Nat.reduceLeDiff, Nat.reduceMul, Nat.reduceLT, if_true, if_false, true_and, and_true, and_self, Nat.reduceBEq, QOp.loads, boxO, bslO, buildO, cutL, fillV, putL, w53, v53, decide_eq_true hr, hsz]
  refine stepC.of (in_ok H1 (l.length : Int) 11 12) ?_
  rintro _ Hx ⟨hx, rfl⟩; rw [hx]; clear hx Hx
  by_cases hn : 11 ≤ (l.length : Int) ∧ (l.length : Int) ≤ 12
  rotate_left
  · simp (maxSteps := 4000000) (disch := omega) only [ah, am, Nat.reduceEqDiff, reduceCtorEq, Nat.reduceAdd, Nat.reduceLeDiff, Nat.reduceMul, Nat.reduceLT, if_true, if_false, true_and, and_true, and_self, Nat.reduceBEq, QOp.loads, boxO, bslO, buildO, cutL, fillV, putL, w53, v53, decide_eq_false hn]
    exact ⟨E1, timeRes_bad fun q => hn (by have := q.2.1; omega)⟩
  have s1 : slsV (.string (bL l)) none (some (.int .i64 2)) = _ := sls_b l .i64 2 (by omega)
  have s2 : slsV (.string (bL l)) (some (.int .i64 3)) (some (.int .i64 5)) = _ := sls_ab l .i64 .i64 3 5 (by omega) (by omega)
  have s3 : slsV (.string (bL l)) (some (.int .i64 6)) (some (.int .i64 8)) = _ := sls_ab l .i64 .i64 6 8 (by omega) (by omega)
  have s4 : slsV (.string (bL l)) (some (.int .i64 9)) none = _ := sls_a l .i64 9 (by omega)
  simp (maxSteps := 4000000) (disch := omega) only [ah, am, Nat.reduceEqDiff, reduceCtorEq, Nat.reduceAdd, Nat.reduceLeDiff, Nat.reduceMul, Nat.reduceLT, if_true, if_false, true_and, and_true, and_self, Nat.reduceBEq, QOp.loads, boxO, bslO, buildO, cutL, fillV, putL, w53, v53, decide_eq_true hn, s1, s2, s3, s4]
  obtain ⟨H2, hH2⟩ : ∃ H2, H2 = H1.more [[.int .i64 0, .int .i64 0, .int .i64 0, .int .i64 0], (fieldsL l).map fun f => .string (bL f)] := ⟨_, rfl⟩
  have BF : Bx H2 H1.size (cs4 (valD (l.take 2)) (valD ((l.drop 3).take 2)) (valD ((l.drop 6).take 2)) (valD (l.drop 9)) 0) := by rw [hH2]; exact Bx.new H1 _ _
  have BS : Bx H2 (H1.size + 1) ((fieldsL l).map fun f => .string (bL f)) := by
    have := Bx.new (H1.more [[.int .i64 0, .int .i64 0, .int .i64 0, .int .i64 0]]) ((fieldsL l).map fun f => .string (bL f)) []
    rw [more_more, size_more] at this; rw [hH2]; exact this
  have e2 : Ext H1 H2 := by rw [hH2]; exact Ext.more _ _
  have B2 := B1.ext e2
  have hbx := Heap.get_lt B1
  have hfl : (fieldsL l).length = 4 := rfl
  have E2 := E1.trans e2
  have hvs : (fieldsL l).map (fun f => (valD f : Int)) = [(valD (l.take 2) : Int), (valD ((l.drop 3).take 2) : Int), (valD ((l.drop 6).take 2) : Int), (valD (l.drop 9) : Int)] := rfl
  show SW _ _ _ _ (H1.more [[.int .i64 0, .int .i64 0, .int .i64 0, .int .i64 0], (fieldsL l).map fun f => .string (bL f)])
  rw [← hH2]
  have h0 : h.size ≤ H1.size := E1.1
  refine SW_loop_up (fun j E K => ExtG H1.size H2 K ∧ Bx K H1.size (cs4 (valD (l.take 2)) (valD ((l.drop 3).take 2)) (valD ((l.drop 6).take 2)) (valD (l.drop 9)) j) ∧ (∀ f ∈ (fieldsL l).take j, digOk f) ∧
    E = [(1, .string (bL l)), (2, .pointer (some ⟨h.size, 0, none⟩)), (6, .pointer (some ⟨H1.size, 0, none⟩)), (31, .slice (some ⟨H1.size + 1, 0, none⟩) 4 1), (32, .int .i64 ((4 : Nat) : Int)), (33, .int .i64 (j : Int))]) 4 0 (by omega) ⟨ExtG.refl _ _, BF, by simp, rfl⟩ ?_
  rintro j E K hj ⟨G, BK, A, rfl⟩
  have wj : IntKind.i64.wrap ((j : Int) + 1) = ((j + 1 : Nat) : Int) := i64e (by omega) (by omega)
  have EK : Ext h K := G.ext E2 h0
  have BSK := BS.step G (by omega)
  simp (maxSteps := 4000000) (disch := omega) only [ah, am, Nat.reduceEqDiff, reduceCtorEq, Nat.reduceAdd, Nat.reduceLeDiff, Nat.reduceMul, Nat.reduceLT, if_true, if_false, true_and, and_true, and_self, Nat.reduceBEq, QOp.loads, boxO, bslO, buildO, cutL, fillV, putL, w53, v53]
  refine stepI.split (fun hp => ?_) (fun hp => ?_)
  · have hj4 : j < (fieldsL l).length := by omega
    have IA : iaV 1 (.slice (some ⟨H1.size + 1, 0, none⟩) 4 1) (.int .i64 (j : Int)) = some (.pointer (some ⟨H1.size + 1, j, none⟩)) := by
      rw [iaV_slice _ _ _ _ _ _ (by omega) (by omega)]; simp
    have LD : ldV K (.pointer (some ⟨H1.size + 1, j, none⟩)) = some (.string (bL (fieldsL l)[j])) := by
      rw [BSK.ld.1, List.getElem?_map, List.getElem?_eq_getElem hj4]; rfl
    have hlf : (fieldsL l)[j].length ≤ 1000000 := by
      have : ∀ f ∈ fieldsL l, f.length ≤ 1000000 := by
        intro f hf
        simp only [fieldsL, List.mem_cons, List.not_mem_nil, or_false] at hf
        rcases hf with rfl | rfl | rfl | rfl <;> simp <;> omega
      exact this _ (List.getElem_mem hj4)
    simp (maxSteps := 4000000) (disch := omega) only [ah, am, Nat.reduceEqDiff, reduceCtorEq, Nat.reduceAdd, Nat.reduceLeDiff, Nat.reduceMul, Nat.reduceLT, if_true, if_false, true_and, and_true, and_self, Nat.reduceBEq, QOp.loads, boxO, bslO, buildO, cutL, fillV, putL, w53, v53, IA, LD]
    refine stepC.of (digits_ok K (fieldsL l)[j] hlf) ?_
    rintro _ Hx ⟨hx, rfl⟩; rw [hx]; clear hx Hx
    by_cases cd : digOk (fieldsL l)[j]
    rotate_left
    · rw [if_neg cd]
      simp (maxSteps := 4000000) (disch := omega) only [ah, am, Nat.reduceEqDiff, reduceCtorEq, Nat.reduceAdd, Nat.reduceLeDiff, Nat.reduceMul, Nat.reduceLT, if_true, if_false, true_and, and_true, and_self, Nat.reduceBEq, QOp.loads, boxO, bslO, buildO, cutL, fillV, putL, w53, v53, decide_eq_false cd]
      exact ⟨EK, timeRes_bad fun q => cd (q.2.2.1 _ (List.getElem_mem hj4))⟩
    · rw [if_pos cd]
      have IAA : iaaV 4 1 (.pointer (some ⟨H1.size, 0, none⟩)) (.int .i64 (j : Int)) = some (.pointer (some ⟨H1.size, j, none⟩)) := by
        rw [iaaV_ptr _ _ _ _ _ _ (by omega) (by omega)]; simp
      obtain ⟨K2, es, BK2, G2⟩ := BK.put (o := j) (n := 1) (y := .int .i64 (valD (fieldsL l)[j])) rfl (by simp [cs4]; omega) rfl
      have hc := cs4_put _ _ _ _ _ hvs j (by simpa using hj4)
      simp only [List.getElem_map] at hc
      rw [show ((Value.int .i64 (valD (fieldsL l)[j] : Int)).cells.toList) = [Value.int .i64 (valD (fieldsL l)[j] : Int)] from rfl, hc] at BK2
      simp (maxSteps := 4000000) (disch := omega) only [ah, am, Nat.reduceEqDiff, reduceCtorEq, Nat.reduceAdd, Nat.reduceLeDiff, Nat.reduceMul, Nat.reduceLT, if_true, if_false, true_and, and_true, and_self, Nat.reduceBEq, QOp.loads, boxO, bslO, buildO, cutL, fillV, putL, w53, v53, decide_eq_true cd, IAA, es, wj]
      refine ⟨by omega, G.trans G2, BK2, fun f hf => ?_⟩
      rw [List.take_succ_eq_append_getElem hj4] at hf
      rcases List.mem_append.mp hf with hf | hf
      · exact A f hf
      · rw [List.mem_singleton] at hf; rw [hf]; exact cd
  · have hj4 : j = 4 := by omega
    subst hj4
    rw [List.take_of_length_le (by omega)] at A
    have BK4 : Bx K H1.size [.int .i64 (valD (l.take 2) : Int), .int .i64 (valD ((l.drop 3).take 2) : Int), .int .i64 (valD ((l.drop 6).take 2) : Int), .int .i64 (valD (l.drop 9) : Int)] := BK
    have BR := B2.step G (by omega)
    obtain ⟨b1, b2, b3⟩ := base_bd hr
    have hlf := left_le r
    have fin : timeL r (frameI r l) = l → timeOkL r l := fun q => ⟨hr, by omega, A, q⟩
    have bad : timeL r (frameI r l) ≠ l → ¬ timeOkL r l := fun q t => q t.2.2.2
    have da := A (l.take 2) (by simp [fieldsL])
    have db := A ((l.drop 3).take 2) (by simp [fieldsL])
    have dc := A ((l.drop 6).take 2) (by simp [fieldsL])
    have dd := A (l.drop 9) (by simp [fieldsL])
    have va : valD (l.take 2) < 100 := Nat.lt_of_lt_of_le (valD_lt _ da.2.2) (Nat.pow_le_pow_right (by omega) (by simp; omega) : 10 ^ _ ≤ 10 ^ 2)
    have vb : valD ((l.drop 3).take 2) < 100 := Nat.lt_of_lt_of_le (valD_lt _ db.2.2) (Nat.pow_le_pow_right (by omega) (by simp; omega) : 10 ^ _ ≤ 10 ^ 2)
    have vc : valD ((l.drop 6).take 2) < 100 := Nat.lt_of_lt_of_le (valD_lt _ dc.2.2) (Nat.pow_le_pow_right (by omega) (by simp; omega) : 10 ^ _ ≤ 10 ^ 2)
    have vd : valD (l.drop 9) < 1000 := Nat.lt_of_lt_of_le (valD_lt _ dd.2.2) (Nat.pow_le_pow_right (by omega) (by simp; omega) : 10 ^ _ ≤ 10 ^ 3)
    have hF : frameI r l = ((60 * (60 * valD (l.take 2) + valD ((l.drop 3).take 2)) + valD ((l.drop 6).take 2)) * baseN r + valD (l.drop 9) : Nat) - (leftN r * ((60 * valD (l.take 2) + valD ((l.drop 3).take 2)) - (60 * valD (l.take 2) + valD ((l.drop 3).take 2)) / 10) : Nat) := rfl
    generalize valD (l.take 2) = a at *
    generalize valD ((l.drop 3).take 2) = b at *
    generalize valD ((l.drop 6).take 2) = c at *
    generalize valD (l.drop 9) = d at *
    obtain ⟨m, hm⟩ : ∃ m, m = 60 * a + b := ⟨_, rfl⟩
    rw [← hm] at hF
    obtain ⟨sc, hsc⟩ : ∃ q, q = 60 * m + c := ⟨_, rfl⟩
    rw [← hsc] at hF
    have bk := base_ok K r hr
    have LO := fun (K : Heap) => left_ok K r
    simp only [encRate] at bk LO
    have w1 : IntKind.i64.wrap (60 * (a : Int)) = ((60 * a : Nat) : Int) := i64e (by omega) (by omega)
    have w2 : IntKind.i64.wrap (((60 * a : Nat) : Int) + (b : Int)) = (m : Int) := i64e (by omega) (by omega)
    have w3 : IntKind.i64.wrap (60 * (m : Int)) = ((60 * m : Nat) : Int) := i64e (by omega) (by omega)
    have w4 : IntKind.i64.wrap (((60 * m : Nat) : Int) + (c : Int)) = (sc : Int) := i64e (by omega) (by omega)
    have q10 : IntKind.i64.wrap ((m : Int).tdiv 10) = ((m / 10 : Nat) : Int) := i64e (tdivN m 10) (by omega)
    have n10 : (10 : Int) ≠ 0 := by omega
    have w5 : IntKind.i64.wrap ((m : Int) - ((m / 10 : Nat) : Int)) = ((m - m / 10 : Nat) : Int) := i64e (by omega) (by omega)
    have pm : sc * baseN r ≤ 1000000 * 120 := Nat.mul_le_mul (by omega) (by omega)
    have w6 : IntKind.i64.wrap ((sc : Int) * (baseN r : Int)) = ((sc * baseN r : Nat) : Int) := i64e (by rw [Int.natCast_mul sc]) (by omega)
    have w7 : IntKind.i64.wrap (((sc * baseN r : Nat) : Int) + (d : Int)) = ((sc * baseN r + d : Nat) : Int) := i64e (by omega) (by omega)
    have pl : leftN r * (m - m / 10) ≤ 4 * 1000000 := Nat.mul_le_mul hlf (by omega)
    have w8 : IntKind.i64.wrap ((leftN r : Int) * ((m - m / 10 : Nat) : Int)) = ((leftN r * (m - m / 10) : Nat) : Int) := i64e (by rw [Int.natCast_mul (leftN r)]) (by omega)
    have w9 : IntKind.i64.wrap (((sc * baseN r + d : Nat) : Int) - ((leftN r * (m - m / 10) : Nat) : Int)) = frameI r l := i64e (by rw [hF]) (by rw [hF]; omega)
    have IA0 : iaaV 4 1 (.pointer (some ⟨H1.size, 0, none⟩)) (.int .i64 0) = some (.pointer (some ⟨H1.size, 0, none⟩)) := iaaV_ptr _ _ _ _ _ _ (by omega) (by omega)
    have IA1 : iaaV 4 1 (.pointer (some ⟨H1.size, 0, none⟩)) (.int .i64 1) = some (.pointer (some ⟨H1.size, 1, none⟩)) := iaaV_ptr _ _ _ _ _ _ (by omega) (by omega)
    have IA2 : iaaV 4 1 (.pointer (some ⟨H1.size, 0, none⟩)) (.int .i64 2) = some (.pointer (some ⟨H1.size, 2, none⟩)) := iaaV_ptr _ _ _ _ _ _ (by omega) (by omega)
    have IA3 : iaaV 4 1 (.pointer (some ⟨H1.size, 0, none⟩)) (.int .i64 3) = some (.pointer (some ⟨H1.size, 3, none⟩)) := iaaV_ptr _ _ _ _ _ _ (by omega) (by omega)
    simp (maxSteps := 4000000) (disch := omega) only [ah, am, Nat.reduceEqDiff, reduceCtorEq, Nat.reduceAdd, Nat.reduceLeDiff, Nat.reduceMul, Nat.reduceLT, if_true, if_false, true_and, and_true, and_self, Nat.reduceBEq, QOp.loads, boxO, bslO, buildO, cutL, fillV, putL, w53, v53, IA0, IA1, IA2, IA3, BK4.ld, BR.ld, w1, w2, w3, w4, q10, n10, ne_eq, not_false_eq_true, w5]
    refine stepC.of bk ?_
    rintro _ K2 ⟨e2', rfl⟩
    simp (maxSteps := 4000000) (disch := omega) only [ah, am, Nat.reduceEqDiff, reduceCtorEq, Nat.reduceAdd, Nat.reduceLeDiff, Nat.reduceMul, Nat.reduceLT, if_true, if_false, true_and, and_true, and_self, Nat.reduceBEq, QOp.loads, boxO, bslO, buildO, cutL, fillV, putL, w53, v53, rechk_cons, rechk_end, chkV_some, chkV_false, IA0, IA1, IA2, IA3, (BK4.ext e2').ld, (BR.ext e2').ld, w6, w7]
    refine stepC.of (LO K2) ?_
    rintro _ K3 ⟨e3, rfl⟩
    have BR3 := (BR.ext e2').ext e3
    have tk := TimeText_ok K3 r (frameI r l)
    simp only [encRate] at tk
    simp (maxSteps := 4000000) (disch := omega) only [ah, am, Nat.reduceEqDiff, reduceCtorEq, Nat.reduceAdd, Nat.reduceLeDiff, Nat.reduceMul, Nat.reduceLT, if_true, if_false, true_and, and_true, and_self, Nat.reduceBEq, QOp.loads, boxO, bslO, buildO, cutL, fillV, putL, w53, v53, rechk_cons, rechk_end, chkV_some, chkV_false, IA0, IA1, IA2, IA3, ((BK4.ext e2').ext e3).ld, BR3.ld, w8, w9]
    refine stepC.of tk ?_
    rintro _ K4 ⟨e4, rfl⟩
    have E4 := ((EK.trans e2').trans e3).trans e4
    by_cases ct : timeL r (frameI r l) = l
    · have N : strB .neq (bL (timeL r (frameI r l))) (bL l) = some (.bool false) := by rw [ct, strB_neq]; simp
      simp (maxSteps := 4000000) (disch := omega) only [ah, am, Nat.reduceEqDiff, reduceCtorEq, Nat.reduceAdd, Nat.reduceLeDiff, Nat.reduceMul, Nat.reduceLT, if_true, if_false, true_and, and_true, and_self, Nat.reduceBEq, QOp.loads, boxO, bslO, buildO, cutL, fillV, putL, w53, v53, N]
      exact ⟨E4, timeRes_ok (fin ct)⟩
    · have N : strB .neq (bL (timeL r (frameI r l))) (bL l) = some (.bool true) := by rw [strB_neq, bL_data, bL_data, decide_eq_false ct]; rfl
      simp (maxSteps := 4000000) (disch := omega) only [ah, am, Nat.reduceEqDiff, reduceCtorEq, Nat.reduceAdd, Nat.reduceLeDiff, Nat.reduceMul, Nat.reduceLT, if_true, if_false, true_and, and_true, and_self, Nat.reduceBEq, QOp.loads, boxO, bslO, buildO, cutL, fillV, putL, w53, v53, N]
      exact ⟨E4, timeRes_bad (bad ct)⟩
end Go.Proofs.YtgmimgmdbpcecaaGreatDoor
end
