import Derived.Test.YtgpekljckdgggaaGreatDoorPAllx0
import Derived.Test.YtgpekljckdgggaaGreatDoorPAllx1
import Derived.Test.YtgpekljckdgggaaGreatDoorPAllx4
namespace Go.Proofs.YtgpekljckdgggaaGreatDoor.PAll
open Go.RowKit Go.Proofs.YtgpekljckdgggaaGreatDoorW.PrintWords Go.Proofs.YtgpekljckdgggaaGreatDoorW.PrintLast Go.Proofs.YtgpekljckdgggaaGreatDoorW.PrintMore
attribute [local go_sem] max2_int min2_int max_two min_two max_three min_three max_four min_four   -- for this text's walks alone
set_option linter.unusedVariables false
set_option linter.unusedSimpArgs false

/-! ### fresh_Kept: function 13 -/
mutual
def fresh_Kept.j0 : Nat → Int → Bool → Bool → Bool → Bool → Bool → Bool → Bool → Bool → Bool → Int → Int → Int → Int → Option (Bool)
 | 0, _, _, _, _, _, _, _, _, _, _, _, _, _, _ => none
 | k + 1, x3, x14, x16, x38, x164000, x164001, x164002, x164003, x164004, x164005, x164006, x164007, x164008, x164009 => if x38 = true then (some false) else (if x14 = true then (if x164003 = true then (fresh_Kept.j1 k x3 x16 false x164000 x164001 x164002 x164003 x164004 x164005 x164006 x164007 x164008 x164009) else (if x164004 = true then (fresh_Kept.j1 k x3 x16 false x164000 x164001 x164002 x164003 x164004 x164005 x164006 x164007 x164008 x164009) else (fresh_Kept.j1 k x3 x16 (decide (x164007 < 0)) x164000 x164001 x164002 x164003 x164004 x164005 x164006 x164007 x164008 x164009))) else (fresh_Kept.j1 k x3 x16 false x164000 x164001 x164002 x164003 x164004 x164005 x164006 x164007 x164008 x164009))
def fresh_Kept.j1 : Nat → Int → Bool → Bool → Bool → Bool → Bool → Bool → Bool → Bool → Int → Int → Int → Int → Option (Bool)
 | 0, _, _, _, _, _, _, _, _, _, _, _, _, _ => none
 | k + 1, x3, x16, x61, x164000, x164001, x164002, x164003, x164004, x164005, x164006, x164007, x164008, x164009 => if x61 = true then (some false) else ((fresh_usual.f x3).bind fun t172 => (if t172 = true then (some true) else (if x3 ≥ 200 then (if x3 ≤ 599 then (if x3 = 206 then (some false) else (if x3 = 304 then (some false) else (if x164006 ≥ 0 then (some true) else (if x164007 ≥ 0 then (some true) else (some x16))))) else (some false)) else (some false))))
end
def fresh_Kept.f (k : Nat) (a0_0 : ByteArray) (a0_1 : Int) (a0_2 : Int) (a0_3 : Int) (a0_4 : Bool) (a0_5 : Bool) (l0_6 : List ByteArray) (a1 : ByteArray) (l2 : List (S46)) (a3 : Int) (l4 : List (S46)) : Option (Bool) := (control_Of.f k l2).bind fun bt142 => ((control_Of.f k l4).bind fun bt152 => ((field_List_Get.f k l2 (⟨#[65, 117, 116, 104, 111, 114, 105, 122, 97, 116, 105, 111, 110]⟩ : ByteArray)).bind fun bt164 => ((field_List_Get.f k l4 (⟨#[69, 120, 112, 105, 114, 101, 115]⟩ : ByteArray)).bind fun bt166 => ((key_Names.f k l4).bind fun bt168 => (if a0_5 = true then (if a1.toList = ([71, 69, 84] : List UInt8) then (if bt142.1 = true then (fresh_Kept.j0 k a3 bt164.2 bt166.2 true bt152.1 bt152.2.1 bt152.2.2.1 bt152.2.2.2.1 bt152.2.2.2.2.1 bt152.2.2.2.2.2.1 bt152.2.2.2.2.2.2.1 bt152.2.2.2.2.2.2.2.1 bt152.2.2.2.2.2.2.2.2.1 bt152.2.2.2.2.2.2.2.2.2) else (if bt152.1 = true then (fresh_Kept.j0 k a3 bt164.2 bt166.2 true bt152.1 bt152.2.1 bt152.2.2.1 bt152.2.2.2.1 bt152.2.2.2.2.1 bt152.2.2.2.2.2.1 bt152.2.2.2.2.2.2.1 bt152.2.2.2.2.2.2.2.1 bt152.2.2.2.2.2.2.2.2.1 bt152.2.2.2.2.2.2.2.2.2) else (if bt152.2.2.1 = true then (fresh_Kept.j0 k a3 bt164.2 bt166.2 true bt152.1 bt152.2.1 bt152.2.2.1 bt152.2.2.2.1 bt152.2.2.2.2.1 bt152.2.2.2.2.2.1 bt152.2.2.2.2.2.2.1 bt152.2.2.2.2.2.2.2.1 bt152.2.2.2.2.2.2.2.2.1 bt152.2.2.2.2.2.2.2.2.2) else (fresh_Kept.j0 k a3 bt164.2 bt166.2 bt168.2 bt152.1 bt152.2.1 bt152.2.2.1 bt152.2.2.2.1 bt152.2.2.2.2.1 bt152.2.2.2.2.2.1 bt152.2.2.2.2.2.2.1 bt152.2.2.2.2.2.2.2.1 bt152.2.2.2.2.2.2.2.2.1 bt152.2.2.2.2.2.2.2.2.2)))) else (fresh_Kept.j0 k a3 bt164.2 bt166.2 true bt152.1 bt152.2.1 bt152.2.2.1 bt152.2.2.2.1 bt152.2.2.2.2.1 bt152.2.2.2.2.2.1 bt152.2.2.2.2.2.2.1 bt152.2.2.2.2.2.2.2.1 bt152.2.2.2.2.2.2.2.2.1 bt152.2.2.2.2.2.2.2.2.2)) else (fresh_Kept.j0 k a3 bt164.2 bt166.2 true bt152.1 bt152.2.1 bt152.2.2.1 bt152.2.2.2.1 bt152.2.2.2.2.1 bt152.2.2.2.2.2.1 bt152.2.2.2.2.2.2.1 bt152.2.2.2.2.2.2.2.1 bt152.2.2.2.2.2.2.2.2.1 bt152.2.2.2.2.2.2.2.2.2))))))
theorem fresh_Kept.mono_l : ∀ k, (∀ y0 y1 y2 y3 y4 y5 y6 y7 y8 y9 y10 y11 y12 y13, LeO (fresh_Kept.j0 k y0 y1 y2 y3 y4 y5 y6 y7 y8 y9 y10 y11 y12 y13) (fresh_Kept.j0 (k + 1) y0 y1 y2 y3 y4 y5 y6 y7 y8 y9 y10 y11 y12 y13)) ∧ (∀ y0 y1 y2 y3 y4 y5 y6 y7 y8 y9 y10 y11 y12, LeO (fresh_Kept.j1 k y0 y1 y2 y3 y4 y5 y6 y7 y8 y9 y10 y11 y12) (fresh_Kept.j1 (k + 1) y0 y1 y2 y3 y4 y5 y6 y7 y8 y9 y10 y11 y12))
 | 0 => ⟨fun _ _ _ _ _ _ _ _ _ _ _ _ _ _ r h => by simp [fresh_Kept.j0] at h, fun _ _ _ _ _ _ _ _ _ _ _ _ _ r h => by simp [fresh_Kept.j1] at h⟩
 | k + 1 => by
  obtain ⟨ih0, ih1⟩ := fresh_Kept.mono_l k
  refine ⟨?_, ?_⟩
  ·
   intro y0 y1 y2 y3 y4 y5 y6 y7 y8 y9 y10 y11 y12 y13
   unfold fresh_Kept.j0
   repeat' (with_reducible first | exact ih0 _ _ _ _ _ _ _ _ _ _ _ _ _ _ | exact ih1 _ _ _ _ _ _ _ _ _ _ _ _ _ | exact control_Of.mono _ _ | exact field_List_Get.mono _ _ _ | exact key_Names.mono _ _ | exact lR_ | refine LeO.ite ?_ ?_ | refine LeO.bind ?_ (fun _ => ?_))
  ·
   intro y0 y1 y2 y3 y4 y5 y6 y7 y8 y9 y10 y11 y12
   unfold fresh_Kept.j1
   repeat' (with_reducible first | exact ih0 _ _ _ _ _ _ _ _ _ _ _ _ _ _ | exact ih1 _ _ _ _ _ _ _ _ _ _ _ _ _ | exact control_Of.mono _ _ | exact field_List_Get.mono _ _ _ | exact key_Names.mono _ _ | exact lR_ | refine LeO.ite ?_ ?_ | refine LeO.bind ?_ (fun _ => ?_))
theorem fresh_Kept.mono : ∀ a0 a1 a2 a3 a4 a5 a6 a7 a8 a9 a10 k, LeO (fresh_Kept.f k a0 a1 a2 a3 a4 a5 a6 a7 a8 a9 a10) (fresh_Kept.f (k + 1) a0 a1 a2 a3 a4 a5 a6 a7 a8 a9 a10) := by
 intro a0 a1 a2 a3 a4 a5 a6 a7 a8 a9 a10 k
 obtain ⟨ih0, ih1⟩ := fresh_Kept.mono_l k
 unfold fresh_Kept.f
 repeat' (with_reducible first | exact ih0 _ _ _ _ _ _ _ _ _ _ _ _ _ _ | exact ih1 _ _ _ _ _ _ _ _ _ _ _ _ _ | exact control_Of.mono _ _ | exact field_List_Get.mono _ _ _ | exact key_Names.mono _ _ | exact lR_ | refine LeO.ite ?_ ?_ | refine LeO.bind ?_ (fun _ => ?_))
set_option maxHeartbeats 8000000 in
set_option maxRecDepth 100000 in
theorem fresh_Kept.calls (k : Nat) (a0_0 : ByteArray) (a0_1 : Int) (a0_2 : Int) (a0_3 : Int) (a0_4 : Bool) (a0_5 : Bool) (A0_6 : Option Addr) (c0_6 : Nat) (l0_6 : List ByteArray) (a1 : ByteArray) (A2 : Option Addr) (c2 : Nat) (l2 : List (S46)) (a3 : Int) (A4 : Option Addr) (c4 : Nat) (l4 : List (S46)) (r : Bool) (w : World) (hr0_6 : Kd.C Kd.string w A0_6 l0_6.length l0_6) (hc0_6 : l0_6.length ≤ c0_6) (hr2 : Kd.C k46 w A2 l2.length l2) (hc2 : l2.length ≤ c2) (hr4 : Kd.C k46 w A4 l4.length l4) (hc4 : l4.length ≤ c4) (h : fresh_Kept.f k a0_0 a0_1 a0_2 a0_3 a0_4 a0_5 l0_6 a1 l2 a3 l4 = some r) :
  Calls Tryz.prog 13 #[.agg #[.string a0_0, .int .i64 a0_1, .int .i64 a0_2, .int .i64 a0_3, .bool a0_4, .bool a0_5, .slice A0_6 l0_6.length c0_6], .string a1, .slice A2 l2.length c2, .int .i64 a3, .slice A4 l4.length c4] w fun e w' => e = .returned (.bool r) ∧ Below w.heap.size w w' := by
 have hu24 := Tryz.underlying24
 have hu57 := Tryz.underlying57
 have HR0_6 := Aside0.mk hr0_6
 have HC0_6 := Aside0.mk hc0_6
 clear hr0_6 hc0_6
 have HR2 := Aside0.mk hr2
 have HC2 := Aside0.mk hc2
 clear hr2 hc2
 have HR4 := Aside0.mk hr4
 have HC4 := Aside0.mk hc4
 clear hr4 hc4
 have HB := Aside0.mk (Below.refl w.heap.size w)
 have H : ((control_Of.f k l2).bind fun bt142 => ((control_Of.f k l4).bind fun bt152 => ((field_List_Get.f k l2 (⟨#[65, 117, 116, 104, 111, 114, 105, 122, 97, 116, 105, 111, 110]⟩ : ByteArray)).bind fun bt164 => ((field_List_Get.f k l4 (⟨#[69, 120, 112, 105, 114, 101, 115]⟩ : ByteArray)).bind fun bt166 => ((key_Names.f k l4).bind fun bt168 => (if a0_5 = true then (if a1.toList = ([71, 69, 84] : List UInt8) then (if bt142.1 = true then (fresh_Kept.j0 k a3 bt164.2 bt166.2 true bt152.1 bt152.2.1 bt152.2.2.1 bt152.2.2.2.1 bt152.2.2.2.2.1 bt152.2.2.2.2.2.1 bt152.2.2.2.2.2.2.1 bt152.2.2.2.2.2.2.2.1 bt152.2.2.2.2.2.2.2.2.1 bt152.2.2.2.2.2.2.2.2.2) else (if bt152.1 = true then (fresh_Kept.j0 k a3 bt164.2 bt166.2 true bt152.1 bt152.2.1 bt152.2.2.1 bt152.2.2.2.1 bt152.2.2.2.2.1 bt152.2.2.2.2.2.1 bt152.2.2.2.2.2.2.1 bt152.2.2.2.2.2.2.2.1 bt152.2.2.2.2.2.2.2.2.1 bt152.2.2.2.2.2.2.2.2.2) else (if bt152.2.2.1 = true then (fresh_Kept.j0 k a3 bt164.2 bt166.2 true bt152.1 bt152.2.1 bt152.2.2.1 bt152.2.2.2.1 bt152.2.2.2.2.1 bt152.2.2.2.2.2.1 bt152.2.2.2.2.2.2.1 bt152.2.2.2.2.2.2.2.1 bt152.2.2.2.2.2.2.2.2.1 bt152.2.2.2.2.2.2.2.2.2) else (fresh_Kept.j0 k a3 bt164.2 bt166.2 bt168.2 bt152.1 bt152.2.1 bt152.2.2.1 bt152.2.2.2.1 bt152.2.2.2.2.1 bt152.2.2.2.2.2.1 bt152.2.2.2.2.2.2.1 bt152.2.2.2.2.2.2.2.1 bt152.2.2.2.2.2.2.2.2.1 bt152.2.2.2.2.2.2.2.2.2)))) else (fresh_Kept.j0 k a3 bt164.2 bt166.2 true bt152.1 bt152.2.1 bt152.2.2.1 bt152.2.2.2.1 bt152.2.2.2.2.1 bt152.2.2.2.2.2.1 bt152.2.2.2.2.2.2.1 bt152.2.2.2.2.2.2.2.1 bt152.2.2.2.2.2.2.2.2.1 bt152.2.2.2.2.2.2.2.2.2)) else (fresh_Kept.j0 k a3 bt164.2 bt166.2 true bt152.1 bt152.2.1 bt152.2.2.1 bt152.2.2.2.1 bt152.2.2.2.2.1 bt152.2.2.2.2.2.1 bt152.2.2.2.2.2.2.1 bt152.2.2.2.2.2.2.2.1 bt152.2.2.2.2.2.2.2.2.1 bt152.2.2.2.2.2.2.2.2.2))))))) = some r := h
 clear h
 obtain ⟨⟨t142, t143, t144, t145, t146, t147, t148, t149, t150, t151⟩, A6, H⟩ := bS_ H
 try dsimp only at H
 obtain ⟨⟨t152, t153, t154, t155, t156, t157, t158, t159, t160, t161⟩, A7, H⟩ := bS_ H
 try dsimp only at H
 obtain ⟨⟨t164, t165⟩, A8, H⟩ := bS_ H
 try dsimp only at H
 obtain ⟨⟨t166, t167⟩, A9, H⟩ := bS_ H
 try dsimp only at H
 obtain ⟨⟨t168, t169⟩, A10, H⟩ := bS_ H
 try dsimp only at H
 have HC11 := Aside0.mk H
 clear H
 go_enter Tryz.func13, Tryz.ntmps13
 go_upto_region 5 with (first | ((with_reducible refine gate_dst (N := 5) rfl ?_); refine box_event ?hg (N := 5) ?hd (cs := #[.string a0_0, .int .i64 a0_1, .int .i64 a0_2, .int .i64 a0_3, .bool a0_4, .bool a0_5, .slice A0_6 l0_6.length c0_6]) (t := 24) ?hr ?_; (case hd | hg => rfl); (case hr => exact S1_); intro gb141 hg w12 hbox hb; have BK141 := Aside0.mk (hbox); have GW141 := Aside0.mk ((Z1_ : w.heap.size ≤ gb141)); have GE141 := Aside0.mk ((Z1_ : w.heap.size ≤ gb141)); replace HB := y1_ hb; clear hb hbox hg) | ((with_reducible refine gate_callee (f := 27) rfl ?_); refine goesL_ (some 20) rfl rfl Tryz.func27 (by kernel_rfl) rfl #[.slice A2 l2.length c2] rfl T1_ ?_; (with_reducible refine (control_Of.calls k _ _ l2 t142 t143 t144 t145 t146 t147 t148 t149 t150 t151 _ ?side1 ?side2 A6.out).mono ?_); (case side1 => exact C1_ ((Kd.C_below HR2.out HB.out))); (case side2 => exact HC2.out); rintro e w13 ⟨rfl, hb⟩; refine ⟨_, rfl, ?_⟩; replace BK141 := yB_ BK141 hb; replace HB := y2_ hb; (try clear hb)) | ((with_reducible refine gate_callee (f := 27) rfl ?_); refine goesL_ (some 22) rfl rfl Tryz.func27 (by kernel_rfl) rfl #[.slice A4 l4.length c4] rfl T1_ ?_; (with_reducible refine (control_Of.calls k _ _ l4 t152 t153 t154 t155 t156 t157 t158 t159 t160 t161 _ ?side1 ?side2 A7.out).mono ?_); (case side1 => exact C1_ ((Kd.C_below HR4.out HB.out))); (case side2 => exact HC4.out); rintro e w14 ⟨rfl, hb⟩; refine ⟨_, rfl, ?_⟩; replace BK141 := yB_ BK141 hb; replace HB := y2_ hb; (try clear hb)) | ((with_reducible refine gate_dst (N := 11) rfl ?_); refine box_event ?hg (N := 11) ?hd (cs := #[.bool false, .bool false, .bool false, .bool false, .bool false, .bool false, .int .i64 0, .int .i64 0, .int .i64 0, .int .i64 0]) (t := 57) ?hr ?_; (case hd | hg => rfl); (case hr => exact S1_); intro gb162 hg w15 hbox hb; have BK162 := Aside0.mk (hbox); have GW162 := Aside0.mk ((Z2_ : w.heap.size ≤ gb162)); have GE162 := Aside0.mk ((Z2_ : w.heap.size ≤ gb162)); have NB141_162 := Aside0.mk ((by rw [hg]; exact Nat.ne_of_lt (blk_lt (B1_ BK141.out)) : gb141 ≠ gb162)); have NB162_141 := Aside0.mk ((by rw [hg]; exact Nat.ne_of_gt (blk_lt (B1_ BK141.out)) : gb162 ≠ gb141)); replace BK141 := yB_ BK141 hb; replace HB := y2_ hb; clear hb hbox hg) | ((with_reducible refine gate_dst (N := 12) rfl ?_); refine box_event ?hg (N := 12) ?hd (cs := #[.bool false, .bool false, .bool false, .bool false, .bool false, .bool false, .int .i64 0, .int .i64 0, .int .i64 0, .int .i64 0]) (t := 57) ?hr ?_; (case hd | hg => rfl); (case hr => exact S1_); intro gb163 hg w16 hbox hb; have BK163 := Aside0.mk (hbox); have GW163 := Aside0.mk ((Z2_ : w.heap.size ≤ gb163)); have GE163 := Aside0.mk ((Z2_ : w.heap.size ≤ gb163)); have NB141_163 := Aside0.mk ((by rw [hg]; exact Nat.ne_of_lt (blk_lt (B1_ BK141.out)) : gb141 ≠ gb163)); have NB163_141 := Aside0.mk ((by rw [hg]; exact Nat.ne_of_gt (blk_lt (B1_ BK141.out)) : gb163 ≠ gb141)); have NB162_163 := Aside0.mk ((by rw [hg]; exact Nat.ne_of_lt (blk_lt (B1_ BK162.out)) : gb162 ≠ gb163)); have NB163_162 := Aside0.mk ((by rw [hg]; exact Nat.ne_of_gt (blk_lt (B1_ BK162.out)) : gb163 ≠ gb162)); replace BK141 := yB_ BK141 hb; replace BK162 := yB_ BK162 hb; replace HB := y2_ hb; clear hb hbox hg; have hnb17 := NB162_141.out; have hnc17 := NB141_162.out; have hnb18 := NB162_163.out; have hnc18 := NB163_162.out; obtain ⟨z19_0, z19_1, z19_2, z19_3, z19_4, z19_5, z19_6, z19_7, z19_8, z19_9, y19_0, y19_1, y19_2, y19_3, y19_4, y19_5, y19_6, y19_7, y19_8, y19_9⟩ := cz10_ BK162.out; have hnb20 := NB163_141.out; have hnc20 := NB141_163.out; obtain ⟨z21_0, z21_1, z21_2, z21_3, z21_4, z21_5, z21_6, z21_7, z21_8, z21_9, y21_0, y21_1, y21_2, y21_3, y21_4, y21_5, y21_6, y21_7, y21_8, y21_9⟩ := cz10_ BK163.out) | ((with_reducible refine gate_callee (f := 28) rfl ?_); refine goesL_ (some 25) rfl rfl Tryz.func28 (by kernel_rfl) rfl #[.slice A2 l2.length c2, .string (⟨#[65, 117, 116, 104, 111, 114, 105, 122, 97, 116, 105, 111, 110]⟩ : ByteArray)] rfl T1_ ?_; (with_reducible refine (field_List_Get.calls k _ _ l2 (⟨#[65, 117, 116, 104, 111, 114, 105, 122, 97, 116, 105, 111, 110]⟩ : ByteArray) t164 t165 _ ?side1 ?side2 A8.out).mono ?_); (case side1 => exact Kd.C_below HR2.out W2_); (case side2 => exact HC2.out); rintro e w22 ⟨rfl, hb⟩; refine ⟨_, rfl, ?_⟩; replace BK141 := Aside0.mk (blk_below (g := gb141) (o := .cells #[.string a0_0, .int .i64 a0_1, .int .i64 a0_2, .int .i64 a0_3, .bool a0_4, .bool a0_5, .slice A0_6 l0_6.length c0_6] 24 (0, 0)) (G1_ BK141.out) hb); replace BK162 := Aside0.mk (blk_below (g := gb162) (o := .cells #[.bool t142, .bool t143, .bool t144, .bool t145, .bool t146, .bool t147, .int .i64 t148, .int .i64 t149, .int .i64 t150, .int .i64 t151] 57 (0, 0)) (G1_ BK162.out) hb); replace BK163 := Aside0.mk (blk_below (g := gb163) (o := .cells #[.bool t152, .bool t153, .bool t154, .bool t155, .bool t156, .bool t157, .int .i64 t158, .int .i64 t159, .int .i64 t160, .int .i64 t161] 57 (0, 0)) (G1_ BK163.out) hb); replace HB := y2_ hb; (try clear hb)) | ((with_reducible refine gate_callee (f := 28) rfl ?_); refine goesL_ (some 30) rfl rfl Tryz.func28 (by kernel_rfl) rfl #[.slice A4 l4.length c4, .string (⟨#[69, 120, 112, 105, 114, 101, 115]⟩ : ByteArray)] rfl T1_ ?_; (with_reducible refine (field_List_Get.calls k _ _ l4 (⟨#[69, 120, 112, 105, 114, 101, 115]⟩ : ByteArray) t166 t167 _ ?side1 ?side2 A9.out).mono ?_); (case side1 => exact C1_ ((Kd.C_below HR4.out HB.out))); (case side2 => exact HC4.out); rintro e w23 ⟨rfl, hb⟩; refine ⟨_, rfl, ?_⟩; replace BK141 := yB_ BK141 hb; replace BK162 := yB_ BK162 hb; replace BK163 := yB_ BK163 hb; replace HB := y2_ hb; (try clear hb)) | ((with_reducible refine gate_callee (f := 29) rfl ?_); refine goesL_ (some 35) rfl rfl Tryz.func29 (by kernel_rfl) rfl #[.slice A4 l4.length c4] rfl T1_ ?_; (with_reducible refine (key_Names.calls k _ _ l4 t168 t169 _ ?side1 ?side2 A10.out).mono ?_); (case side1 => exact C1_ ((Kd.C_below HR4.out HB.out))); (case side2 => exact HC4.out); rintro e w24 ⟨v170, rfl, ho0, hb⟩; refine ⟨_, rfl, ?_⟩; have HO171 := Aside0.mk (Kd.R_lower ho0 (below_size W2_)); replace BK141 := yB_ BK141 hb; replace BK162 := yB_ BK162 hb; replace BK163 := yB_ BK163 hb; replace HB := y2_ hb; (try clear hb); (try clear ho0)))
 (try simp only [Act.put, sA_, sZ_, sS_])
 go_cut [38] (fun v38 wc => ∃ (kq : Nat) (x38_10 : Bool), v38 = .bool x38_10 ∧ Aside0 (fresh_Kept.j0 kq a3 t165 t167 x38_10 t152 t153 t154 t155 t156 t157 t158 t159 t160 t161 = some r) ∧ Aside0 (kq ≤ k) ∧ Aside0 (wc.heap[gb141]? = some (.cells #[.string a0_0, .int .i64 a0_1, .int .i64 a0_2, .int .i64 a0_3, .bool a0_4, .bool a0_5, (.slice A0_6 l0_6.length c0_6)] 24 (0, 0))) ∧ Aside0 (wc.heap[gb162]? = some (.cells #[.bool t142, .bool t143, .bool t144, .bool t145, .bool t146, .bool t147, .int .i64 t148, .int .i64 t149, .int .i64 t150, .int .i64 t151] 57 (0, 0))) ∧ Aside0 (wc.heap[gb163]? = some (.cells #[.bool t152, .bool t153, .bool t154, .bool t155, .bool t156, .bool t157, .int .i64 t158, .int .i64 t159, .int .i64 t160, .int .i64 t161] 57 (0, 0))) ∧ Aside0 (Below w.heap.size w wc))
 case first =>
  have H := HC11.out
  clear HC11
  by_cases c25 : a0_5 = true
  ·
   subst c25
   rw [if_pos rfl] at H
   by_cases c26 : a1.toList = ([71, 69, 84] : List UInt8)
   ·
    rw [if_pos c26] at H
    have c26b0 : (a1.toList == ([71, 69, 84] : List UInt8)) = true := beq_iff_eq.mpr c26
    have c26b1 : (a1.toList != ([71, 69, 84] : List UInt8)) = false := bne_eq_false_iff_eq.mpr c26
    clear c26
    (first | rw [c26b0] | (simp only [i64_w, i32_w]; rw [c26b0]) | skip)
    by_cases c27 : t142 = true
    ·
     subst c27
     rw [if_pos rfl] at H
     have H' := Aside0.mk H
     clear H
     have hnb28 := NB141_162.out
     have hnc28 := NB162_141.out
     have hnb29 := NB141_163.out
     have hnc29 := NB163_141.out
     obtain ⟨z30_0, z30_1, z30_2, z30_3, z30_4, z30_5, z30_6, y30_0, y30_1, y30_2, y30_3, y30_4, y30_5, y30_6⟩ := cz7_ BK141.out
     have hnb31 := NB162_163.out
     have hnc31 := NB163_162.out
     obtain ⟨z32_0, z32_1, z32_2, z32_3, z32_4, z32_5, z32_6, z32_7, z32_8, z32_9, y32_0, y32_1, y32_2, y32_3, y32_4, y32_5, y32_6, y32_7, y32_8, y32_9⟩ := cz10_ BK162.out
     go_wp2
     go_meet
     case rel => exact ⟨_, (true), E3_, H', ⟨by first | omega | exact Nat.le_refl _⟩, ⟨B1_ BK141.out⟩, ⟨B1_ BK162.out⟩, ⟨B1_ BK163.out⟩, ⟨W2_⟩⟩
    ·
     replace c27 := Bool.eq_false_iff.mpr c27
     subst c27
     rw [if_neg (show ¬ (false = true) by decide)] at H
     by_cases c33 : t152 = true
     ·
      subst c33
      rw [if_pos rfl] at H
      have H' := Aside0.mk H
      clear H
      have hnb34 := NB141_162.out
      have hnc34 := NB162_141.out
      have hnb35 := NB141_163.out
      have hnc35 := NB163_141.out
      obtain ⟨z36_0, z36_1, z36_2, z36_3, z36_4, z36_5, z36_6, y36_0, y36_1, y36_2, y36_3, y36_4, y36_5, y36_6⟩ := cz7_ BK141.out
      have hnb37 := NB162_163.out
      have hnc37 := NB163_162.out
      obtain ⟨z38_0, z38_1, z38_2, z38_3, z38_4, z38_5, z38_6, z38_7, z38_8, z38_9, y38_0, y38_1, y38_2, y38_3, y38_4, y38_5, y38_6, y38_7, y38_8, y38_9⟩ := cz10_ BK162.out
      obtain ⟨z39_0, z39_1, z39_2, z39_3, z39_4, z39_5, z39_6, z39_7, z39_8, z39_9, y39_0, y39_1, y39_2, y39_3, y39_4, y39_5, y39_6, y39_7, y39_8, y39_9⟩ := cz10_ BK163.out
      go_wp2
      go_meet
      case rel => exact ⟨_, (true), E3_, H', ⟨by first | omega | exact Nat.le_refl _⟩, ⟨B1_ BK141.out⟩, ⟨B1_ BK162.out⟩, ⟨B1_ BK163.out⟩, ⟨W2_⟩⟩
     ·
      replace c33 := Bool.eq_false_iff.mpr c33
      subst c33
      rw [if_neg (show ¬ (false = true) by decide)] at H
      by_cases c40 : t154 = true
      ·
       subst c40
       rw [if_pos rfl] at H
       have H' := Aside0.mk H
       clear H
       have hnb41 := NB141_162.out
       have hnc41 := NB162_141.out
       have hnb42 := NB141_163.out
       have hnc42 := NB163_141.out
       obtain ⟨z43_0, z43_1, z43_2, z43_3, z43_4, z43_5, z43_6, y43_0, y43_1, y43_2, y43_3, y43_4, y43_5, y43_6⟩ := cz7_ BK141.out
       have hnb44 := NB162_163.out
       have hnc44 := NB163_162.out
       obtain ⟨z45_0, z45_1, z45_2, z45_3, z45_4, z45_5, z45_6, z45_7, z45_8, z45_9, y45_0, y45_1, y45_2, y45_3, y45_4, y45_5, y45_6, y45_7, y45_8, y45_9⟩ := cz10_ BK162.out
       obtain ⟨z46_0, z46_1, z46_2, z46_3, z46_4, z46_5, z46_6, z46_7, z46_8, z46_9, y46_0, y46_1, y46_2, y46_3, y46_4, y46_5, y46_6, y46_7, y46_8, y46_9⟩ := cz10_ BK163.out
       go_wp2
       go_meet
       case rel => exact ⟨_, (true), E3_, H', ⟨by first | omega | exact Nat.le_refl _⟩, ⟨B1_ BK141.out⟩, ⟨B1_ BK162.out⟩, ⟨B1_ BK163.out⟩, ⟨W2_⟩⟩
      ·
       replace c40 := Bool.eq_false_iff.mpr c40
       subst c40
       rw [if_neg (show ¬ (false = true) by decide)] at H
       have H' := Aside0.mk H
       clear H
       have hnb47 := NB141_162.out
       have hnc47 := NB162_141.out
       have hnb48 := NB141_163.out
       have hnc48 := NB163_141.out
       obtain ⟨z49_0, z49_1, z49_2, z49_3, z49_4, z49_5, z49_6, y49_0, y49_1, y49_2, y49_3, y49_4, y49_5, y49_6⟩ := cz7_ BK141.out
       have hnb50 := NB162_163.out
       have hnc50 := NB163_162.out
       obtain ⟨z51_0, z51_1, z51_2, z51_3, z51_4, z51_5, z51_6, z51_7, z51_8, z51_9, y51_0, y51_1, y51_2, y51_3, y51_4, y51_5, y51_6, y51_7, y51_8, y51_9⟩ := cz10_ BK162.out
       obtain ⟨z52_0, z52_1, z52_2, z52_3, z52_4, z52_5, z52_6, z52_7, z52_8, z52_9, y52_0, y52_1, y52_2, y52_3, y52_4, y52_5, y52_6, y52_7, y52_8, y52_9⟩ := cz10_ BK163.out
       go_wp2
       go_meet
       case rel => exact ⟨_, (t169), E3_, H', ⟨by first | omega | exact Nat.le_refl _⟩, ⟨B1_ BK141.out⟩, ⟨B1_ BK162.out⟩, ⟨B1_ BK163.out⟩, ⟨W2_⟩⟩
   ·
    rw [if_neg c26] at H
    have c26b0 : (a1.toList == ([71, 69, 84] : List UInt8)) = false := beq_eq_false_iff_ne.mpr c26
    have c26b1 : (a1.toList != ([71, 69, 84] : List UInt8)) = true := bne_iff_ne.mpr c26
    (first | rw [c26b0] | (simp only [i64_w, i32_w]; rw [c26b0]) | skip)
    have H' := Aside0.mk H
    clear H
    have hnb53 := NB141_162.out
    have hnc53 := NB162_141.out
    have hnb54 := NB141_163.out
    have hnc54 := NB163_141.out
    obtain ⟨z55_0, z55_1, z55_2, z55_3, z55_4, z55_5, z55_6, y55_0, y55_1, y55_2, y55_3, y55_4, y55_5, y55_6⟩ := cz7_ BK141.out
    go_wp2
    go_meet
    case rel => exact ⟨_, (true), E3_, H', ⟨by first | omega | exact Nat.le_refl _⟩, ⟨B1_ BK141.out⟩, ⟨B1_ BK162.out⟩, ⟨B1_ BK163.out⟩, ⟨W2_⟩⟩
  ·
   replace c25 := Bool.eq_false_iff.mpr c25
   subst c25
   rw [if_neg (show ¬ (false = true) by decide)] at H
   have H' := Aside0.mk H
   clear H
   have hnb56 := NB141_162.out
   have hnc56 := NB162_141.out
   have hnb57 := NB141_163.out
   have hnc57 := NB163_141.out
   obtain ⟨z58_0, z58_1, z58_2, z58_3, z58_4, z58_5, z58_6, y58_0, y58_1, y58_2, y58_3, y58_4, y58_5, y58_6⟩ := cz7_ BK141.out
   go_wp2
   go_meet
   case rel => exact ⟨_, (true), E3_, H', ⟨by first | omega | exact Nat.le_refl _⟩, ⟨B1_ BK141.out⟩, ⟨B1_ BK162.out⟩, ⟨B1_ BK163.out⟩, ⟨W2_⟩⟩
 case rest =>
  clear HC11
  (try clear c2); (try clear c4); (try clear c25); (try clear c26); (try clear c26b0); (try clear c26b1); (try clear c27); (try clear c33); (try clear c40); (try clear z19_0 z19_1 z19_2 z19_3 z19_4 z19_5 z19_6 z19_7 z19_8 z19_9 y19_0 y19_1 y19_2 y19_3 y19_4 y19_5 y19_6 y19_7 y19_8 y19_9); (try clear z21_0 z21_1 z21_2 z21_3 z21_4 z21_5 z21_6 z21_7 z21_8 z21_9 y21_0 y21_1 y21_2 y21_3 y21_4 y21_5 y21_6 y21_7 y21_8 y21_9); (try clear z30_0 z30_1 z30_2 z30_3 z30_4 z30_5 z30_6 y30_0 y30_1 y30_2 y30_3 y30_4 y30_5 y30_6); (try clear z32_0 z32_1 z32_2 z32_3 z32_4 z32_5 z32_6 z32_7 z32_8 z32_9 y32_0 y32_1 y32_2 y32_3 y32_4 y32_5 y32_6 y32_7 y32_8 y32_9); (try clear z36_0 z36_1 z36_2 z36_3 z36_4 z36_5 z36_6 y36_0 y36_1 y36_2 y36_3 y36_4 y36_5 y36_6); (try clear z38_0 z38_1 z38_2 z38_3 z38_4 z38_5 z38_6 z38_7 z38_8 z38_9 y38_0 y38_1 y38_2 y38_3 y38_4 y38_5 y38_6 y38_7 y38_8 y38_9); (try clear z39_0 z39_1 z39_2 z39_3 z39_4 z39_5 z39_6 z39_7 z39_8 z39_9 y39_0 y39_1 y39_2 y39_3 y39_4 y39_5 y39_6 y39_7 y39_8 y39_9); (try clear z43_0 z43_1 z43_2 z43_3 z43_4 z43_5 z43_6 y43_0 y43_1 y43_2 y43_3 y43_4 y43_5 y43_6); (try clear z45_0 z45_1 z45_2 z45_3 z45_4 z45_5 z45_6 z45_7 z45_8 z45_9 y45_0 y45_1 y45_2 y45_3 y45_4 y45_5 y45_6 y45_7 y45_8 y45_9); (try clear z46_0 z46_1 z46_2 z46_3 z46_4 z46_5 z46_6 z46_7 z46_8 z46_9 y46_0 y46_1 y46_2 y46_3 y46_4 y46_5 y46_6 y46_7 y46_8 y46_9); (try clear z49_0 z49_1 z49_2 z49_3 z49_4 z49_5 z49_6 y49_0 y49_1 y49_2 y49_3 y49_4 y49_5 y49_6); (try clear z51_0 z51_1 z51_2 z51_3 z51_4 z51_5 z51_6 z51_7 z51_8 z51_9 y51_0 y51_1 y51_2 y51_3 y51_4 y51_5 y51_6 y51_7 y51_8 y51_9); (try clear z52_0 z52_1 z52_2 z52_3 z52_4 z52_5 z52_6 z52_7 z52_8 z52_9 y52_0 y52_1 y52_2 y52_3 y52_4 y52_5 y52_6 y52_7 y52_8 y52_9); (try clear z55_0 z55_1 z55_2 z55_3 z55_4 z55_5 z55_6 y55_0 y55_1 y55_2 y55_3 y55_4 y55_5 y55_6); (try clear z58_0 z58_1 z58_2 z58_3 z58_4 z58_5 z58_6 y58_0 y58_1 y58_2 y58_3 y58_4 y58_5 y58_6)
  obtain ⟨kq, x38_10, rfl, HA, HJ10, BK141, BK162, BK163, HB⟩ := hcut
  cases kq with
  | zero => exact absurd HA.out (by simp [fresh_Kept.j0])
  | succ kj10 =>
   have H := HA.out
   clear HA
   simp only [fresh_Kept.j0] at H
   by_cases c59 : x38_10 = true
   ·
    subst c59
    rw [if_pos rfl] at H
    obtain rfl := Option.some.inj H
    go_wp2
    go_ret
    exact ⟨E1_, W2_⟩
   ·
    replace c59 := Bool.eq_false_iff.mpr c59
    subst c59
    rw [if_neg (show ¬ (false = true) by decide)] at H
    have HC60 := Aside0.mk H
    clear H
    go_upto_region 7 with (fail)
    go_cut [61] (fun v61 wc => ∃ (kq : Nat) (x61_59 : Bool), v61 = .bool x61_59 ∧ Aside0 (fresh_Kept.j1 kq a3 t167 x61_59 t152 t153 t154 t155 t156 t157 t158 t159 t160 t161 = some r) ∧ Aside0 (kq ≤ kj10) ∧ Aside0 (wc.heap[gb141]? = some (.cells #[.string a0_0, .int .i64 a0_1, .int .i64 a0_2, .int .i64 a0_3, .bool a0_4, .bool a0_5, (.slice A0_6 l0_6.length c0_6)] 24 (0, 0))) ∧ Aside0 (wc.heap[gb162]? = some (.cells #[.bool t142, .bool t143, .bool t144, .bool t145, .bool t146, .bool t147, .int .i64 t148, .int .i64 t149, .int .i64 t150, .int .i64 t151] 57 (0, 0))) ∧ Aside0 (wc.heap[gb163]? = some (.cells #[.bool t152, .bool t153, .bool t154, .bool t155, .bool t156, .bool t157, .int .i64 t158, .int .i64 t159, .int .i64 t160, .int .i64 t161] 57 (0, 0))) ∧ Aside0 (Below w.heap.size w wc))
    case first =>
     have H := HC60.out
     clear HC60
     by_cases c61 : t165 = true
     ·
      subst c61
      rw [if_pos rfl] at H
      by_cases c62 : t155 = true
      ·
       subst c62
       rw [if_pos rfl] at H
       have H' := Aside0.mk H
       clear H
       have hnb63 := NB163_141.out
       have hnc63 := NB141_163.out
       have hnb64 := NB163_162.out
       have hnc64 := NB162_163.out
       obtain ⟨z65_0, z65_1, z65_2, z65_3, z65_4, z65_5, z65_6, z65_7, z65_8, z65_9, y65_0, y65_1, y65_2, y65_3, y65_4, y65_5, y65_6, y65_7, y65_8, y65_9⟩ := cz10_ BK163.out
       go_wp2
       go_meet
       case rel => exact ⟨_, (false), E3_, H', ⟨by have := HJ10.out; first | omega | exact Nat.le_refl _⟩, ⟨B1_ BK141.out⟩, ⟨B1_ BK162.out⟩, ⟨B1_ BK163.out⟩, ⟨W2_⟩⟩
      ·
       replace c62 := Bool.eq_false_iff.mpr c62
       subst c62
       rw [if_neg (show ¬ (false = true) by decide)] at H
       by_cases c66 : t156 = true
       ·
        subst c66
        rw [if_pos rfl] at H
        have H' := Aside0.mk H
        clear H
        have hnb67 := NB163_141.out
        have hnc67 := NB141_163.out
        have hnb68 := NB163_162.out
        have hnc68 := NB162_163.out
        obtain ⟨z69_0, z69_1, z69_2, z69_3, z69_4, z69_5, z69_6, z69_7, z69_8, z69_9, y69_0, y69_1, y69_2, y69_3, y69_4, y69_5, y69_6, y69_7, y69_8, y69_9⟩ := cz10_ BK163.out
        go_wp2
        go_meet
        case rel => exact ⟨_, (false), E3_, H', ⟨by have := HJ10.out; first | omega | exact Nat.le_refl _⟩, ⟨B1_ BK141.out⟩, ⟨B1_ BK162.out⟩, ⟨B1_ BK163.out⟩, ⟨W2_⟩⟩
       ·
        replace c66 := Bool.eq_false_iff.mpr c66
        subst c66
        rw [if_neg (show ¬ (false = true) by decide)] at H
        have H' := Aside0.mk H
        clear H
        have hnb70 := NB163_141.out
        have hnc70 := NB141_163.out
        have hnb71 := NB163_162.out
        have hnc71 := NB162_163.out
        obtain ⟨z72_0, z72_1, z72_2, z72_3, z72_4, z72_5, z72_6, z72_7, z72_8, z72_9, y72_0, y72_1, y72_2, y72_3, y72_4, y72_5, y72_6, y72_7, y72_8, y72_9⟩ := cz10_ BK163.out
        go_wp2
        go_meet
        case rel => exact ⟨_, (decide (t159 < 0)), E3_, H', ⟨by have := HJ10.out; first | omega | exact Nat.le_refl _⟩, ⟨B1_ BK141.out⟩, ⟨B1_ BK162.out⟩, ⟨B1_ BK163.out⟩, ⟨W2_⟩⟩
     ·
      replace c61 := Bool.eq_false_iff.mpr c61
      subst c61
      rw [if_neg (show ¬ (false = true) by decide)] at H
      have H' := Aside0.mk H
      clear H
      go_wp2
      go_meet
      case rel => exact ⟨_, (false), E3_, H', ⟨by have := HJ10.out; first | omega | exact Nat.le_refl _⟩, ⟨B1_ BK141.out⟩, ⟨B1_ BK162.out⟩, ⟨B1_ BK163.out⟩, ⟨W2_⟩⟩
    case rest =>
     clear HC60
     (try clear c2); (try clear c4); (try clear c25); (try clear c26); (try clear c26b0); (try clear c26b1); (try clear c27); (try clear c33); (try clear c40); (try clear c59); (try clear c61); (try clear c62); (try clear c66); (try clear z19_0 z19_1 z19_2 z19_3 z19_4 z19_5 z19_6 z19_7 z19_8 z19_9 y19_0 y19_1 y19_2 y19_3 y19_4 y19_5 y19_6 y19_7 y19_8 y19_9); (try clear z21_0 z21_1 z21_2 z21_3 z21_4 z21_5 z21_6 z21_7 z21_8 z21_9 y21_0 y21_1 y21_2 y21_3 y21_4 y21_5 y21_6 y21_7 y21_8 y21_9); (try clear z30_0 z30_1 z30_2 z30_3 z30_4 z30_5 z30_6 y30_0 y30_1 y30_2 y30_3 y30_4 y30_5 y30_6); (try clear z32_0 z32_1 z32_2 z32_3 z32_4 z32_5 z32_6 z32_7 z32_8 z32_9 y32_0 y32_1 y32_2 y32_3 y32_4 y32_5 y32_6 y32_7 y32_8 y32_9); (try clear z36_0 z36_1 z36_2 z36_3 z36_4 z36_5 z36_6 y36_0 y36_1 y36_2 y36_3 y36_4 y36_5 y36_6); (try clear z38_0 z38_1 z38_2 z38_3 z38_4 z38_5 z38_6 z38_7 z38_8 z38_9 y38_0 y38_1 y38_2 y38_3 y38_4 y38_5 y38_6 y38_7 y38_8 y38_9); (try clear z39_0 z39_1 z39_2 z39_3 z39_4 z39_5 z39_6 z39_7 z39_8 z39_9 y39_0 y39_1 y39_2 y39_3 y39_4 y39_5 y39_6 y39_7 y39_8 y39_9); (try clear z43_0 z43_1 z43_2 z43_3 z43_4 z43_5 z43_6 y43_0 y43_1 y43_2 y43_3 y43_4 y43_5 y43_6); (try clear z45_0 z45_1 z45_2 z45_3 z45_4 z45_5 z45_6 z45_7 z45_8 z45_9 y45_0 y45_1 y45_2 y45_3 y45_4 y45_5 y45_6 y45_7 y45_8 y45_9); (try clear z46_0 z46_1 z46_2 z46_3 z46_4 z46_5 z46_6 z46_7 z46_8 z46_9 y46_0 y46_1 y46_2 y46_3 y46_4 y46_5 y46_6 y46_7 y46_8 y46_9); (try clear z49_0 z49_1 z49_2 z49_3 z49_4 z49_5 z49_6 y49_0 y49_1 y49_2 y49_3 y49_4 y49_5 y49_6); (try clear z51_0 z51_1 z51_2 z51_3 z51_4 z51_5 z51_6 z51_7 z51_8 z51_9 y51_0 y51_1 y51_2 y51_3 y51_4 y51_5 y51_6 y51_7 y51_8 y51_9); (try clear z52_0 z52_1 z52_2 z52_3 z52_4 z52_5 z52_6 z52_7 z52_8 z52_9 y52_0 y52_1 y52_2 y52_3 y52_4 y52_5 y52_6 y52_7 y52_8 y52_9); (try clear z55_0 z55_1 z55_2 z55_3 z55_4 z55_5 z55_6 y55_0 y55_1 y55_2 y55_3 y55_4 y55_5 y55_6); (try clear z58_0 z58_1 z58_2 z58_3 z58_4 z58_5 z58_6 y58_0 y58_1 y58_2 y58_3 y58_4 y58_5 y58_6); (try clear z65_0 z65_1 z65_2 z65_3 z65_4 z65_5 z65_6 z65_7 z65_8 z65_9 y65_0 y65_1 y65_2 y65_3 y65_4 y65_5 y65_6 y65_7 y65_8 y65_9); (try clear z69_0 z69_1 z69_2 z69_3 z69_4 z69_5 z69_6 z69_7 z69_8 z69_9 y69_0 y69_1 y69_2 y69_3 y69_4 y69_5 y69_6 y69_7 y69_8 y69_9); (try clear z72_0 z72_1 z72_2 z72_3 z72_4 z72_5 z72_6 z72_7 z72_8 z72_9 y72_0 y72_1 y72_2 y72_3 y72_4 y72_5 y72_6 y72_7 y72_8 y72_9)
     obtain ⟨kq, x61_59, rfl, HA, HJ59, BK141, BK162, BK163, HB⟩ := hcut
     cases kq with
     | zero => exact absurd HA.out (by simp [fresh_Kept.j1])
     | succ kj59 =>
      have H := HA.out
      clear HA
      simp only [fresh_Kept.j1] at H
      by_cases c73 : x61_59 = true
      ·
       subst c73
       rw [if_pos rfl] at H
       obtain rfl := Option.some.inj H
       go_wp2
       go_ret
       exact ⟨E1_, W2_⟩
      ·
       replace c73 := Bool.eq_false_iff.mpr c73
       subst c73
       rw [if_neg (show ¬ (false = true) by decide)] at H
       obtain ⟨t172, A74, H⟩ := bS_ H
       try dsimp only at H
       by_cases c75 : t172 = true
       ·
        subst c75
        rw [if_pos rfl] at H
        obtain rfl := Option.some.inj H
        go_wp2_with (first | ((with_reducible refine gate_callee (f := 30) rfl ?_); refine goesL_ (some 80) rfl rfl Tryz.func30 (by kernel_rfl) rfl #[.int .i64 a3] rfl T1_ ?_; (with_reducible refine (fresh_usual.calls a3 true _ A74.out).mono ?_); rintro e w' ⟨rfl, ⟨nd, rfl⟩⟩; refine ⟨_, rfl, ?_⟩))
        go_ret
        exact ⟨E1_, W2_⟩
       ·
        replace c75 := Bool.eq_false_iff.mpr c75
        subst c75
        rw [if_neg (show ¬ (false = true) by decide)] at H
        by_cases c76 : a3 ≥ 200
        ·
         rw [if_pos c76] at H
         have c76b0 : decide (200 ≤ a3) = true := decide_eq_true c76
         clear c76
         by_cases c77 : a3 ≤ 599
         ·
          rw [if_pos c77] at H
          have c77b0 : decide (a3 ≤ 599) = true := decide_eq_true c77
          clear c77
          by_cases c78 : a3 = 206
          ·
           rw [if_pos c78] at H
           have c78b0 : (a3 == 206) = true := beq_iff_eq.mpr c78
           have c78b1 : (a3 != 206) = false := bne_eq_false_iff_eq.mpr c78
           clear c78
           obtain rfl := Option.some.inj H
           go_wp2_with (first | ((with_reducible refine gate_callee (f := 30) rfl ?_); refine goesL_ (some 80) rfl rfl Tryz.func30 (by kernel_rfl) rfl #[.int .i64 a3] rfl T1_ ?_; (with_reducible refine (fresh_usual.calls a3 false _ A74.out).mono ?_); rintro e w' ⟨rfl, ⟨nd, rfl⟩⟩; refine ⟨_, rfl, ?_⟩))
           go_ret
           exact ⟨E1_, W2_⟩
          ·
           rw [if_neg c78] at H
           have c78b0 : (a3 == 206) = false := beq_eq_false_iff_ne.mpr c78
           have c78b1 : (a3 != 206) = true := bne_iff_ne.mpr c78
           by_cases c79 : a3 = 304
           ·
            rw [if_pos c79] at H
            have c79b0 : (a3 == 304) = true := beq_iff_eq.mpr c79
            have c79b1 : (a3 != 304) = false := bne_eq_false_iff_eq.mpr c79
            clear c79
            obtain rfl := Option.some.inj H
            go_wp2_with (first | ((with_reducible refine gate_callee (f := 30) rfl ?_); refine goesL_ (some 80) rfl rfl Tryz.func30 (by kernel_rfl) rfl #[.int .i64 a3] rfl T1_ ?_; (with_reducible refine (fresh_usual.calls a3 false _ A74.out).mono ?_); rintro e w' ⟨rfl, ⟨nd, rfl⟩⟩; refine ⟨_, rfl, ?_⟩))
            go_ret
            exact ⟨E1_, W2_⟩
           ·
            rw [if_neg c79] at H
            have c79b0 : (a3 == 304) = false := beq_eq_false_iff_ne.mpr c79
            have c79b1 : (a3 != 304) = true := bne_iff_ne.mpr c79
            by_cases c80 : t158 ≥ 0
            ·
             rw [if_pos c80] at H
             have c80b0 : decide (0 ≤ t158) = true := decide_eq_true c80
             clear c80
             obtain rfl := Option.some.inj H
             go_wp2_with (first | ((with_reducible refine gate_callee (f := 30) rfl ?_); refine goesL_ (some 80) rfl rfl Tryz.func30 (by kernel_rfl) rfl #[.int .i64 a3] rfl T1_ ?_; (with_reducible refine (fresh_usual.calls a3 false _ A74.out).mono ?_); rintro e w' ⟨rfl, ⟨nd, rfl⟩⟩; refine ⟨_, rfl, ?_⟩; have hnb81 := NB163_141.out; have hnc81 := NB141_163.out; have hnb82 := NB163_162.out; have hnc82 := NB162_163.out; obtain ⟨z83_0, z83_1, z83_2, z83_3, z83_4, z83_5, z83_6, z83_7, z83_8, z83_9, y83_0, y83_1, y83_2, y83_3, y83_4, y83_5, y83_6, y83_7, y83_8, y83_9⟩ := cz10_ BK163.out))
             go_ret
             exact ⟨E1_, W2_⟩
            ·
             rw [if_neg c80] at H
             have c80b0 : decide (0 ≤ t158) = false := decide_eq_false c80
             clear c80
             by_cases c84 : t159 ≥ 0
             ·
              rw [if_pos c84] at H
              have c84b0 : decide (0 ≤ t159) = true := decide_eq_true c84
              clear c84
              obtain rfl := Option.some.inj H
              go_wp2_with (first | ((with_reducible refine gate_callee (f := 30) rfl ?_); refine goesL_ (some 80) rfl rfl Tryz.func30 (by kernel_rfl) rfl #[.int .i64 a3] rfl T1_ ?_; (with_reducible refine (fresh_usual.calls a3 false _ A74.out).mono ?_); rintro e w' ⟨rfl, ⟨nd, rfl⟩⟩; refine ⟨_, rfl, ?_⟩; have hnb85 := NB163_141.out; have hnc85 := NB141_163.out; have hnb86 := NB163_162.out; have hnc86 := NB162_163.out; obtain ⟨z87_0, z87_1, z87_2, z87_3, z87_4, z87_5, z87_6, z87_7, z87_8, z87_9, y87_0, y87_1, y87_2, y87_3, y87_4, y87_5, y87_6, y87_7, y87_8, y87_9⟩ := cz10_ BK163.out))
              go_ret
              exact ⟨E1_, W2_⟩
             ·
              rw [if_neg c84] at H
              have c84b0 : decide (0 ≤ t159) = false := decide_eq_false c84
              clear c84
              obtain rfl := Option.some.inj H
              go_wp2_with (first | ((with_reducible refine gate_callee (f := 30) rfl ?_); refine goesL_ (some 80) rfl rfl Tryz.func30 (by kernel_rfl) rfl #[.int .i64 a3] rfl T1_ ?_; (with_reducible refine (fresh_usual.calls a3 false _ A74.out).mono ?_); rintro e w' ⟨rfl, ⟨nd, rfl⟩⟩; refine ⟨_, rfl, ?_⟩; have hnb88 := NB163_141.out; have hnc88 := NB141_163.out; have hnb89 := NB163_162.out; have hnc89 := NB162_163.out; obtain ⟨z90_0, z90_1, z90_2, z90_3, z90_4, z90_5, z90_6, z90_7, z90_8, z90_9, y90_0, y90_1, y90_2, y90_3, y90_4, y90_5, y90_6, y90_7, y90_8, y90_9⟩ := cz10_ BK163.out))
              go_ret
              exact ⟨E1_, W2_⟩
         ·
          rw [if_neg c77] at H
          have c77b0 : decide (a3 ≤ 599) = false := decide_eq_false c77
          clear c77
          obtain rfl := Option.some.inj H
          go_wp2_with (first | ((with_reducible refine gate_callee (f := 30) rfl ?_); refine goesL_ (some 80) rfl rfl Tryz.func30 (by kernel_rfl) rfl #[.int .i64 a3] rfl T1_ ?_; (with_reducible refine (fresh_usual.calls a3 false _ A74.out).mono ?_); rintro e w' ⟨rfl, ⟨nd, rfl⟩⟩; refine ⟨_, rfl, ?_⟩))
          go_ret
          exact ⟨E1_, W2_⟩
        ·
         rw [if_neg c76] at H
         have c76b0 : decide (200 ≤ a3) = false := decide_eq_false c76
         clear c76
         obtain rfl := Option.some.inj H
         go_wp2_with (first | ((with_reducible refine gate_callee (f := 30) rfl ?_); refine goesL_ (some 80) rfl rfl Tryz.func30 (by kernel_rfl) rfl #[.int .i64 a3] rfl T1_ ?_; (with_reducible refine (fresh_usual.calls a3 false _ A74.out).mono ?_); rintro e w' ⟨rfl, ⟨nd, rfl⟩⟩; refine ⟨_, rfl, ?_⟩))
         go_ret
         exact ⟨E1_, W2_⟩

end Go.Proofs.YtgpekljckdgggaaGreatDoor.PAll
