-- Text by a program of this session, over what print.py prints.
import Derived.Test.YtgpekljckdgggaaGreatDoorPAllx0
import Derived.Test.YtgpekljckdgggaaGreatDoorPAllx1
import Derived.Test.YtgpekljckdgggaaGreatDoorPAllx4
namespace Go.Proofs.YtgpekljckdgggaaGreatDoor.PAll
open Go.RowKit Go.Proofs.YtgpekljckdgggaaGreatDoorW.PrintWords Go.Proofs.YtgpekljckdgggaaGreatDoorW.PrintLast Go.Proofs.YtgpekljckdgggaaGreatDoorW.PrintMore
attribute [local go_sem] max2_int min2_int max_two min_two max_three min_three max_four min_four   -- for this text's walks alone
set_option linter.unusedVariables false
set_option linter.unusedSimpArgs false

/-! ### fresh_Kept: function 13 -/
mutual
def fresh_Kept.j0 : Nat → Int → Bool → Bool → Bool → Bool → Bool → Bool → Bool → Bool → Bool → Int → Int → Int → Int → Option (Bool)
 | 0, _, _, _, _, _, _, _, _, _, _, _, _, _, _ => none
 | k + 1, x3, x14, x16, x38, x164000, x164001, x164002, x164003, x164004, x164005, x164006, x164007, x164008, x164009 => if x38 = true then (some false) else (if x14 = true then (if x164003 = true then (fresh_Kept.j1 k x3 x16 false x164000 x164001 x164002 x164003 x164004 x164005 x164006 x164007 x164008 x164009) else (if x164004 = true then (fresh_Kept.j1 k x3 x16 false x164000 x164001 x164002 x164003 x164004 x164005 x164006 x164007 x164008 x164009) else (fresh_Kept.j1 k x3 x16 (decide (x164007 < 0)) x164000 x164001 x164002 x164003 x164004 x164005 x164006 x164007 x164008 x164009))) else (fresh_Kept.j1 k x3 x16 false x164000 x164001 x164002 x164003 x164004 x164005 x164006 x164007 x164008 x164009))
def fresh_Kept.j1 : Nat → Int → Bool → Bool → Bool → Bool → Bool → Bool → Bool → Bool → Int → Int → Int → Int → Option (Bool)
 | 0, _, _, _, _, _, _, _, _, _, _, _, _, _ => none
 | k + 1, x3, x16, x61, x164000, x164001, x164002, x164003, x164004, x164005, x164006, x164007, x164008, x164009 => if x61 = true then (some false) else ((fresh_usual.f x3).bind fun t172 => (if t172 = true then (some true) else (if x3 ≥ 200 then (if x3 ≤ 599 then (if x3 = 206 then (some false) else (if x3 = 304 then (some false) else (if x164006 ≥ 0 then (some true) else (if x164007 ≥ 0 then (some true) else (some x16))))) else (some false)) else (some false))))
end
def fresh_Kept.f (k : Nat) (a0_0 : ByteArray) (a0_1 : Int) (a0_2 : Int) (a0_3 : Int) (a0_4 : Bool) (a0_5 : Bool) (l0_6 : List ByteArray) (a1 : ByteArray) (l2 : List (S46)) (a3 : Int) (l4 : List (S46)) : Option (Bool) := (control_Of.f k l2).bind fun bt142 => ((control_Of.f k l4).bind fun bt152 => ((field_List_Get.f k l2 (⟨#[65, 117, 116, 104, 111, 114, 105, 122, 97, 116, 105, 111, 110]⟩ : ByteArray)).bind fun bt164 => ((field_List_Get.f k l4 (⟨#[69, 120, 112, 105, 114, 101, 115]⟩ : ByteArray)).bind fun bt166 => ((key_Names.f k l4).bind fun bt168 => (if a0_5 = true then (if a1.toList = ([71, 69, 84] : List UInt8) then (if bt142.1 = true then (fresh_Kept.j0 k a3 bt164.2 bt166.2 true bt152.1 bt152.2.1 bt152.2.2.1 bt152.2.2.2.1 bt152.2.2.2.2.1 bt152.2.2.2.2.2.1 bt152.2.2.2.2.2.2.1 bt152.2.2.2.2.2.2.2.1 bt152.2.2.2.2.2.2.2.2.1 bt152.2.2.2.2.2.2.2.2.2) else (if bt152.1 = true then (fresh_Kept.j0 k a3 bt164.2 bt166.2 true bt152.1 bt152.2.1 bt152.2.2.1 bt152.2.2.2.1 bt152.2.2.2.2.1 bt152.2.2.2.2.2.1 bt152.2.2.2.2.2.2.1 bt152.2.2.2.2.2.2.2.1 bt152.2.2.2.2.2.2.2.2.1 bt152.2.2.2.2.2.2.2.2.2) else (if bt152.2.2.1 = true then (fresh_Kept.j0 k a3 bt164.2 bt166.2 true bt152.1 bt152.2.1 bt152.2.2.1 bt152.2.2.2.1 bt152.2.2.2.2.1 bt152.2.2.2.2.2.1 bt152.2.2.2.2.2.2.1 bt152.2.2.2.2.2.2.2.1 bt152.2.2.2.2.2.2.2.2.1 bt152.2.2.2.2.2.2.2.2.2) else (fresh_Kept.j0 k a3 bt164.2 bt166.2 bt168.2 bt152.1 bt152.2.1 bt152.2.2.1 bt152.2.2.2.1 bt152.2.2.2.2.1 bt152.2.2.2.2.2.1 bt152.2.2.2.2.2.2.1 bt152.2.2.2.2.2.2.2.1 bt152.2.2.2.2.2.2.2.2.1 bt152.2.2.2.2.2.2.2.2.2)))) else (fresh_Kept.j0 k a3 bt164.2 bt166.2 true bt152.1 bt152.2.1 bt152.2.2.1 bt152.2.2.2.1 bt152.2.2.2.2.1 bt152.2.2.2.2.2.1 bt152.2.2.2.2.2.2.1 bt152.2.2.2.2.2.2.2.1 bt152.2.2.2.2.2.2.2.2.1 bt152.2.2.2.2.2.2.2.2.2)) else (fresh_Kept.j0 k a3 bt164.2 bt166.2 true bt152.1 bt152.2.1 bt152.2.2.1 bt152.2.2.2.1 bt152.2.2.2.2.1 bt152.2.2.2.2.2.1 bt152.2.2.2.2.2.2.1 bt152.2.2.2.2.2.2.2.1 bt152.2.2.2.2.2.2.2.2.1 bt152.2.2.2.2.2.2.2.2.2))))))
theorem fresh_Kept.mono_l : ∀ k, (∀ y0 y1 y2 y3 y4 y5 y6 y7 y8 y9 y10 y11 y12 y13, LeO (fresh_Kept.j0 k y0 y1 y2 y3 y4 y5 y6 y7 y8 y9 y10 y11 y12 y13) (fresh_Kept.j0 (k + 1) y0 y1 y2 y3 y4 y5 y6 y7 y8 y9 y10 y11 y12 y13)) ∧ (∀ y0 y1 y2 y3 y4 y5 y6 y7 y8 y9 y10 y11 y12, LeO (fresh_Kept.j1 k y0 y1 y2 y3 y4 y5 y6 y7 y8 y9 y10 y11 y12) (fresh_Kept.j1 (k + 1) y0 y1 y2 y3 y4 y5 y6 y7 y8 y9 y10 y11 y12))
 | 0 => ⟨fun _ _ _ _ _ _ _ _ _ _ _ _ _ _ r h => by simp [fresh_Kept.j0] at h, fun _ _ _ _ _ _ _ _ _ _ _ _ _ r h => by simp [fresh_Kept.j1] at h⟩
 | k + 1 => by
  obtain ⟨ih0, ih1⟩ := fresh_Kept.mono_l k
  refine ⟨?_, ?_⟩
  ·
   intro y0 y1 y2 y3 y4 y5 y6 y7 y8 y9 y10 y11 y12 y13
   unfold fresh_Kept.j0
   repeat' first
   | (with_reducible exact ih0 _ _ _ _ _ _ _ _ _ _ _ _ _ _)
   | (with_reducible exact ih1 _ _ _ _ _ _ _ _ _ _ _ _ _)
   | (with_reducible exact control_Of.mono _ _)
   | (with_reducible exact field_List_Get.mono _ _ _)
   | (with_reducible exact key_Names.mono _ _)
   | (with_reducible exact LeO.refl _)
   | (with_reducible exact LeO.none _)
   | (with_reducible refine LeO.ite ?_ ?_)
   | (with_reducible refine LeO.bind ?_ (fun _ => ?_))
   | exact ih0 _ _ _ _ _ _ _ _ _ _ _ _ _ _
   | exact ih1 _ _ _ _ _ _ _ _ _ _ _ _ _
   | exact control_Of.mono _ _
   | exact field_List_Get.mono _ _ _
   | exact key_Names.mono _ _
   | exact LeO.none _
   | refine LeO.ite ?_ ?_
   | refine LeO.bind ?_ (fun _ => ?_)
  ·
   intro y0 y1 y2 y3 y4 y5 y6 y7 y8 y9 y10 y11 y12
   unfold fresh_Kept.j1
   repeat' first
   | (with_reducible exact ih0 _ _ _ _ _ _ _ _ _ _ _ _ _ _)
   | (with_reducible exact ih1 _ _ _ _ _ _ _ _ _ _ _ _ _)
   | (with_reducible exact control_Of.mono _ _)
   | (with_reducible exact field_List_Get.mono _ _ _)
   | (with_reducible exact key_Names.mono _ _)
   | (with_reducible exact LeO.refl _)
   | (with_reducible exact LeO.none _)
   | (with_reducible refine LeO.ite ?_ ?_)
   | (with_reducible refine LeO.bind ?_ (fun _ => ?_))
   | exact ih0 _ _ _ _ _ _ _ _ _ _ _ _ _ _
   | exact ih1 _ _ _ _ _ _ _ _ _ _ _ _ _
   | exact control_Of.mono _ _
   | exact field_List_Get.mono _ _ _
   | exact key_Names.mono _ _
   | exact LeO.none _
   | refine LeO.ite ?_ ?_
   | refine LeO.bind ?_ (fun _ => ?_)
theorem fresh_Kept.mono : ∀ a0 a1 a2 a3 a4 a5 a6 a7 a8 a9 a10 k, LeO (fresh_Kept.f k a0 a1 a2 a3 a4 a5 a6 a7 a8 a9 a10) (fresh_Kept.f (k + 1) a0 a1 a2 a3 a4 a5 a6 a7 a8 a9 a10) := by
 intro a0 a1 a2 a3 a4 a5 a6 a7 a8 a9 a10 k
 obtain ⟨ih0, ih1⟩ := fresh_Kept.mono_l k
 unfold fresh_Kept.f
 repeat' first
   | (with_reducible exact ih0 _ _ _ _ _ _ _ _ _ _ _ _ _ _)
   | (with_reducible exact ih1 _ _ _ _ _ _ _ _ _ _ _ _ _)
   | (with_reducible exact control_Of.mono _ _)
   | (with_reducible exact field_List_Get.mono _ _ _)
   | (with_reducible exact key_Names.mono _ _)
   | (with_reducible exact LeO.refl _)
   | (with_reducible exact LeO.none _)
   | (with_reducible refine LeO.ite ?_ ?_)
   | (with_reducible refine LeO.bind ?_ (fun _ => ?_))
   | exact ih0 _ _ _ _ _ _ _ _ _ _ _ _ _ _
   | exact ih1 _ _ _ _ _ _ _ _ _ _ _ _ _
   | exact control_Of.mono _ _
   | exact field_List_Get.mono _ _ _
   | exact key_Names.mono _ _
   | exact LeO.none _
   | refine LeO.ite ?_ ?_
   | refine LeO.bind ?_ (fun _ => ?_)
set_option maxHeartbeats 8000000 in
set_option maxRecDepth 100000 in
theorem fresh_Kept.calls (k : Nat) (a0_0 : ByteArray) (a0_1 : Int) (a0_2 : Int) (a0_3 : Int) (a0_4 : Bool) (a0_5 : Bool) (A0_6 : Option Addr) (c0_6 : Nat) (l0_6 : List ByteArray) (a1 : ByteArray) (A2 : Option Addr) (c2 : Nat) (l2 : List (S46)) (a3 : Int) (A4 : Option Addr) (c4 : Nat) (l4 : List (S46)) (r : Bool) (w : World) (hr0_6 : Kd.C Kd.string w A0_6 l0_6.length l0_6) (hc0_6 : l0_6.length ≤ c0_6) (hr2 : Kd.C k46 w A2 l2.length l2) (hc2 : l2.length ≤ c2) (hr4 : Kd.C k46 w A4 l4.length l4) (hc4 : l4.length ≤ c4) (h : fresh_Kept.f k a0_0 a0_1 a0_2 a0_3 a0_4 a0_5 l0_6 a1 l2 a3 l4 = some r) :
  Calls Tryz.prog 13 #[.agg #[.string a0_0, .int .i64 a0_1, .int .i64 a0_2, .int .i64 a0_3, .bool a0_4, .bool a0_5, .slice A0_6 l0_6.length c0_6], .string a1, .slice A2 l2.length c2, .int .i64 a3, .slice A4 l4.length c4] w fun e w' => e = .returned (.bool r) ∧ Below w.heap.size w w' := by
 have hu24 := Tryz.underlying24
 have hu57 := Tryz.underlying57
 have HR0_6 := Aside0.mk hr0_6
 have HC0_6 := Aside0.mk hc0_6
 clear hr0_6 hc0_6
 have HR2 := Aside0.mk hr2
 have HC2 := Aside0.mk hc2
 clear hr2 hc2
 have HR4 := Aside0.mk hr4
 have HC4 := Aside0.mk hc4
 clear hr4 hc4
 have HB := Aside0.mk (Below.refl w.heap.size w)
 have H : ((control_Of.f k l2).bind fun bt142 => ((control_Of.f k l4).bind fun bt152 => ((field_List_Get.f k l2 (⟨#[65, 117, 116, 104, 111, 114, 105, 122, 97, 116, 105, 111, 110]⟩ : ByteArray)).bind fun bt164 => ((field_List_Get.f k l4 (⟨#[69, 120, 112, 105, 114, 101, 115]⟩ : ByteArray)).bind fun bt166 => ((key_Names.f k l4).bind fun bt168 => (if a0_5 = true then (if a1.toList = ([71, 69, 84] : List UInt8) then (if bt142.1 = true then (fresh_Kept.j0 k a3 bt164.2 bt166.2 true bt152.1 bt152.2.1 bt152.2.2.1 bt152.2.2.2.1 bt152.2.2.2.2.1 bt152.2.2.2.2.2.1 bt152.2.2.2.2.2.2.1 bt152.2.2.2.2.2.2.2.1 bt152.2.2.2.2.2.2.2.2.1 bt152.2.2.2.2.2.2.2.2.2) else (if bt152.1 = true then (fresh_Kept.j0 k a3 bt164.2 bt166.2 true bt152.1 bt152.2.1 bt152.2.2.1 bt152.2.2.2.1 bt152.2.2.2.2.1 bt152.2.2.2.2.2.1 bt152.2.2.2.2.2.2.1 bt152.2.2.2.2.2.2.2.1 bt152.2.2.2.2.2.2.2.2.1 bt152.2.2.2.2.2.2.2.2.2) else (if bt152.2.2.1 = true then (fresh_Kept.j0 k a3 bt164.2 bt166.2 true bt152.1 bt152.2.1 bt152.2.2.1 bt152.2.2.2.1 bt152.2.2.2.2.1 bt152.2.2.2.2.2.1 bt152.2.2.2.2.2.2.1 bt152.2.2.2.2.2.2.2.1 bt152.2.2.2.2.2.2.2.2.1 bt152.2.2.2.2.2.2.2.2.2) else (fresh_Kept.j0 k a3 bt164.2 bt166.2 bt168.2 bt152.1 bt152.2.1 bt152.2.2.1 bt152.2.2.2.1 bt152.2.2.2.2.1 bt152.2.2.2.2.2.1 bt152.2.2.2.2.2.2.1 bt152.2.2.2.2.2.2.2.1 bt152.2.2.2.2.2.2.2.2.1 bt152.2.2.2.2.2.2.2.2.2)))) else (fresh_Kept.j0 k a3 bt164.2 bt166.2 true bt152.1 bt152.2.1 bt152.2.2.1 bt152.2.2.2.1 bt152.2.2.2.2.1 bt152.2.2.2.2.2.1 bt152.2.2.2.2.2.2.1 bt152.2.2.2.2.2.2.2.1 bt152.2.2.2.2.2.2.2.2.1 bt152.2.2.2.2.2.2.2.2.2)) else (fresh_Kept.j0 k a3 bt164.2 bt166.2 true bt152.1 bt152.2.1 bt152.2.2.1 bt152.2.2.2.1 bt152.2.2.2.2.1 bt152.2.2.2.2.2.1 bt152.2.2.2.2.2.2.1 bt152.2.2.2.2.2.2.2.1 bt152.2.2.2.2.2.2.2.2.1 bt152.2.2.2.2.2.2.2.2.2))))))) = some r := h
 clear h
 replace H := Option.bind_eq_some_iff.mp H
 obtain ⟨⟨t142, t143, t144, t145, t146, t147, t148, t149, t150, t151⟩, A60, H⟩ := H
 replace H : ((control_Of.f k l4).bind fun bt152 => ((field_List_Get.f k l2 (⟨#[65, 117, 116, 104, 111, 114, 105, 122, 97, 116, 105, 111, 110]⟩ : ByteArray)).bind fun bt164 => ((field_List_Get.f k l4 (⟨#[69, 120, 112, 105, 114, 101, 115]⟩ : ByteArray)).bind fun bt166 => ((key_Names.f k l4).bind fun bt168 => (if a0_5 = true then (if a1.toList = ([71, 69, 84] : List UInt8) then (if t142 = true then (fresh_Kept.j0 k a3 bt164.2 bt166.2 true bt152.1 bt152.2.1 bt152.2.2.1 bt152.2.2.2.1 bt152.2.2.2.2.1 bt152.2.2.2.2.2.1 bt152.2.2.2.2.2.2.1 bt152.2.2.2.2.2.2.2.1 bt152.2.2.2.2.2.2.2.2.1 bt152.2.2.2.2.2.2.2.2.2) else (if bt152.1 = true then (fresh_Kept.j0 k a3 bt164.2 bt166.2 true bt152.1 bt152.2.1 bt152.2.2.1 bt152.2.2.2.1 bt152.2.2.2.2.1 bt152.2.2.2.2.2.1 bt152.2.2.2.2.2.2.1 bt152.2.2.2.2.2.2.2.1 bt152.2.2.2.2.2.2.2.2.1 bt152.2.2.2.2.2.2.2.2.2) else (if bt152.2.2.1 = true then (fresh_Kept.j0 k a3 bt164.2 bt166.2 true bt152.1 bt152.2.1 bt152.2.2.1 bt152.2.2.2.1 bt152.2.2.2.2.1 bt152.2.2.2.2.2.1 bt152.2.2.2.2.2.2.1 bt152.2.2.2.2.2.2.2.1 bt152.2.2.2.2.2.2.2.2.1 bt152.2.2.2.2.2.2.2.2.2) else (fresh_Kept.j0 k a3 bt164.2 bt166.2 bt168.2 bt152.1 bt152.2.1 bt152.2.2.1 bt152.2.2.2.1 bt152.2.2.2.2.1 bt152.2.2.2.2.2.1 bt152.2.2.2.2.2.2.1 bt152.2.2.2.2.2.2.2.1 bt152.2.2.2.2.2.2.2.2.1 bt152.2.2.2.2.2.2.2.2.2)))) else (fresh_Kept.j0 k a3 bt164.2 bt166.2 true bt152.1 bt152.2.1 bt152.2.2.1 bt152.2.2.2.1 bt152.2.2.2.2.1 bt152.2.2.2.2.2.1 bt152.2.2.2.2.2.2.1 bt152.2.2.2.2.2.2.2.1 bt152.2.2.2.2.2.2.2.2.1 bt152.2.2.2.2.2.2.2.2.2)) else (fresh_Kept.j0 k a3 bt164.2 bt166.2 true bt152.1 bt152.2.1 bt152.2.2.1 bt152.2.2.2.1 bt152.2.2.2.2.1 bt152.2.2.2.2.2.1 bt152.2.2.2.2.2.2.1 bt152.2.2.2.2.2.2.2.1 bt152.2.2.2.2.2.2.2.2.1 bt152.2.2.2.2.2.2.2.2.2)))))) = some r := H
 have A6 := Aside0.mk A60
 clear A60
 replace H := Option.bind_eq_some_iff.mp H
 obtain ⟨⟨t152, t153, t154, t155, t156, t157, t158, t159, t160, t161⟩, A70, H⟩ := H
 replace H : ((field_List_Get.f k l2 (⟨#[65, 117, 116, 104, 111, 114, 105, 122, 97, 116, 105, 111, 110]⟩ : ByteArray)).bind fun bt164 => ((field_List_Get.f k l4 (⟨#[69, 120, 112, 105, 114, 101, 115]⟩ : ByteArray)).bind fun bt166 => ((key_Names.f k l4).bind fun bt168 => (if a0_5 = true then (if a1.toList = ([71, 69, 84] : List UInt8) then (if t142 = true then (fresh_Kept.j0 k a3 bt164.2 bt166.2 true t152 t153 t154 t155 t156 t157 t158 t159 t160 t161) else (if t152 = true then (fresh_Kept.j0 k a3 bt164.2 bt166.2 true t152 t153 t154 t155 t156 t157 t158 t159 t160 t161) else (if t154 = true then (fresh_Kept.j0 k a3 bt164.2 bt166.2 true t152 t153 t154 t155 t156 t157 t158 t159 t160 t161) else (fresh_Kept.j0 k a3 bt164.2 bt166.2 bt168.2 t152 t153 t154 t155 t156 t157 t158 t159 t160 t161)))) else (fresh_Kept.j0 k a3 bt164.2 bt166.2 true t152 t153 t154 t155 t156 t157 t158 t159 t160 t161)) else (fresh_Kept.j0 k a3 bt164.2 bt166.2 true t152 t153 t154 t155 t156 t157 t158 t159 t160 t161))))) = some r := H
 have A7 := Aside0.mk A70
 clear A70
 replace H := Option.bind_eq_some_iff.mp H
 obtain ⟨⟨t164, t165⟩, A80, H⟩ := H
 replace H : ((field_List_Get.f k l4 (⟨#[69, 120, 112, 105, 114, 101, 115]⟩ : ByteArray)).bind fun bt166 => ((key_Names.f k l4).bind fun bt168 => (if a0_5 = true then (if a1.toList = ([71, 69, 84] : List UInt8) then (if t142 = true then (fresh_Kept.j0 k a3 t165 bt166.2 true t152 t153 t154 t155 t156 t157 t158 t159 t160 t161) else (if t152 = true then (fresh_Kept.j0 k a3 t165 bt166.2 true t152 t153 t154 t155 t156 t157 t158 t159 t160 t161) else (if t154 = true then (fresh_Kept.j0 k a3 t165 bt166.2 true t152 t153 t154 t155 t156 t157 t158 t159 t160 t161) else (fresh_Kept.j0 k a3 t165 bt166.2 bt168.2 t152 t153 t154 t155 t156 t157 t158 t159 t160 t161)))) else (fresh_Kept.j0 k a3 t165 bt166.2 true t152 t153 t154 t155 t156 t157 t158 t159 t160 t161)) else (fresh_Kept.j0 k a3 t165 bt166.2 true t152 t153 t154 t155 t156 t157 t158 t159 t160 t161)))) = some r := H
 have A8 := Aside0.mk A80
 clear A80
 replace H := Option.bind_eq_some_iff.mp H
 obtain ⟨⟨t166, t167⟩, A90, H⟩ := H
 replace H : ((key_Names.f k l4).bind fun bt168 => (if a0_5 = true then (if a1.toList = ([71, 69, 84] : List UInt8) then (if t142 = true then (fresh_Kept.j0 k a3 t165 t167 true t152 t153 t154 t155 t156 t157 t158 t159 t160 t161) else (if t152 = true then (fresh_Kept.j0 k a3 t165 t167 true t152 t153 t154 t155 t156 t157 t158 t159 t160 t161) else (if t154 = true then (fresh_Kept.j0 k a3 t165 t167 true t152 t153 t154 t155 t156 t157 t158 t159 t160 t161) else (fresh_Kept.j0 k a3 t165 t167 bt168.2 t152 t153 t154 t155 t156 t157 t158 t159 t160 t161)))) else (fresh_Kept.j0 k a3 t165 t167 true t152 t153 t154 t155 t156 t157 t158 t159 t160 t161)) else (fresh_Kept.j0 k a3 t165 t167 true t152 t153 t154 t155 t156 t157 t158 t159 t160 t161))) = some r := H
 have A9 := Aside0.mk A90
 clear A90
 replace H := Option.bind_eq_some_iff.mp H
 obtain ⟨⟨t168, t169⟩, A100, H⟩ := H
 replace H : (if a0_5 = true then (if a1.toList = ([71, 69, 84] : List UInt8) then (if t142 = true then (fresh_Kept.j0 k a3 t165 t167 true t152 t153 t154 t155 t156 t157 t158 t159 t160 t161) else (if t152 = true then (fresh_Kept.j0 k a3 t165 t167 true t152 t153 t154 t155 t156 t157 t158 t159 t160 t161) else (if t154 = true then (fresh_Kept.j0 k a3 t165 t167 true t152 t153 t154 t155 t156 t157 t158 t159 t160 t161) else (fresh_Kept.j0 k a3 t165 t167 t169 t152 t153 t154 t155 t156 t157 t158 t159 t160 t161)))) else (fresh_Kept.j0 k a3 t165 t167 true t152 t153 t154 t155 t156 t157 t158 t159 t160 t161)) else (fresh_Kept.j0 k a3 t165 t167 true t152 t153 t154 t155 t156 t157 t158 t159 t160 t161)) = some r := H
 have A10 := Aside0.mk A100
 clear A100
 have HC11 := Aside0.mk H
 clear H
 go_enter Tryz.func13, Tryz.ntmps13
 go_upto_region 5 with (first | ((with_reducible refine gate_dst (N := 5) rfl ?_); refine box_event ?hg (N := 5) ?hd (cs := #[.string a0_0, .int .i64 a0_1, .int .i64 a0_2, .int .i64 a0_3, .bool a0_4, .bool a0_5, .slice A0_6 l0_6.length c0_6]) (t := 24) ?hr ?_; (case hd => rfl); (case hg => rfl); (case hr => first | (go_simp; done) | (go_simp; rfl)); intro gb141 hg w12 hbox hb; have n0_ := Aside0.mk (below_step (by repeat (first | (with_reducible first | exact HB.out | apply zA_ | apply zN_ | apply zD_) | exact HB.out)) hb); have n1_ := Aside0.mk (hbox); have n2_ := Aside0.mk ((by rw [hg]; exact (below_size (by repeat (first | (with_reducible first | exact HB.out | apply zA_ | apply zN_ | apply zD_) | exact HB.out))) : w.heap.size ≤ gb141)); have n3_ := Aside0.mk ((by rw [hg]; exact (below_size (by repeat (first | (with_reducible first | exact HB.out | apply zA_ | apply zN_ | apply zD_) | exact HB.out))) : w.heap.size ≤ gb141)); clear HB; have HB := n0_; have BK141 := n1_; have GW141 := n2_; have GE141 := n3_; clear n0_ n1_ n2_ n3_; clear hb hbox hg) | ((with_reducible refine gate_callee (f := 27) rfl ?_); refine goesL_ (some 20) rfl rfl Tryz.func27 (by kernel_rfl) rfl #[.slice A2 l2.length c2] rfl (by (try simp only [mA_, mC_, mN_]); first | done | rfl | (simp only [List.length_drop, List.length_take]; rfl)) ?_; (with_reducible refine (control_Of.calls k _ _ l2 t142 t143 t144 t145 t146 t147 t148 t149 t150 t151 _ ?side1 ?side2 A6.out).mono ?_); (case side1 => repeat (first | exact (Kd.C_below HR2.out HB.out) | (with_reducible refine Kd.C_alloc ?_ _) | (with_reducible refine Kd.C_drewN ?_ _) | (with_reducible refine Kd.C_drew ?_))); (case side2 => exact HC2.out); rintro e w13 ⟨rfl, hb⟩; refine ⟨_, rfl, ?_⟩; have n0_ := Aside0.mk (blk_below (g := gb141) (o := .cells #[.string a0_0, .int .i64 a0_1, .int .i64 a0_2, .int .i64 a0_3, .bool a0_4, .bool a0_5, .slice A0_6 l0_6.length c0_6] 24 (0, 0)) (by (with_reducible repeat (first | refine bN_ ?_ _ | refine bD_ ?_ | refine bA_ ?_ _)); exact BK141.out) hb); have n1_ := Aside0.mk (below_step (by repeat (first | (with_reducible first | exact HB.out | apply zA_ | apply zN_ | apply zD_ | refine below_set ?_ GE141.out) | exact HB.out)) hb); clear BK141; clear HB; have BK141 := n0_; have HB := n1_; clear n0_ n1_; (try clear hb); (try clear hb2); (try clear hk); (try clear hi)) | ((with_reducible refine gate_callee (f := 27) rfl ?_); refine goesL_ (some 22) rfl rfl Tryz.func27 (by kernel_rfl) rfl #[.slice A4 l4.length c4] rfl (by (try simp only [mA_, mC_, mN_]); first | done | rfl | (simp only [List.length_drop, List.length_take]; rfl)) ?_; (with_reducible refine (control_Of.calls k _ _ l4 t152 t153 t154 t155 t156 t157 t158 t159 t160 t161 _ ?side1 ?side2 A7.out).mono ?_); (case side1 => repeat (first | exact (Kd.C_below HR4.out HB.out) | (with_reducible refine Kd.C_alloc ?_ _) | (with_reducible refine Kd.C_drewN ?_ _) | (with_reducible refine Kd.C_drew ?_))); (case side2 => exact HC4.out); rintro e w14 ⟨rfl, hb⟩; refine ⟨_, rfl, ?_⟩; have n0_ := Aside0.mk (blk_below (g := gb141) (o := .cells #[.string a0_0, .int .i64 a0_1, .int .i64 a0_2, .int .i64 a0_3, .bool a0_4, .bool a0_5, .slice A0_6 l0_6.length c0_6] 24 (0, 0)) (by (with_reducible repeat (first | refine bN_ ?_ _ | refine bD_ ?_ | refine bA_ ?_ _)); exact BK141.out) hb); have n1_ := Aside0.mk (below_step (by repeat (first | (with_reducible first | exact HB.out | apply zA_ | apply zN_ | apply zD_ | refine below_set ?_ GE141.out) | exact HB.out)) hb); clear BK141; clear HB; have BK141 := n0_; have HB := n1_; clear n0_ n1_; (try clear hb); (try clear hb2); (try clear hk); (try clear hi)) | ((with_reducible refine gate_dst (N := 11) rfl ?_); refine box_event ?hg (N := 11) ?hd (cs := #[.bool false, .bool false, .bool false, .bool false, .bool false, .bool false, .int .i64 0, .int .i64 0, .int .i64 0, .int .i64 0]) (t := 57) ?hr ?_; (case hd => rfl); (case hg => rfl); (case hr => first | (go_simp; done) | (go_simp; rfl)); intro gb162 hg w15 hbox hb; have n0_ := Aside0.mk (blk_below (g := gb141) (o := .cells #[.string a0_0, .int .i64 a0_1, .int .i64 a0_2, .int .i64 a0_3, .bool a0_4, .bool a0_5, .slice A0_6 l0_6.length c0_6] 24 (0, 0)) (by (with_reducible repeat (first | refine bN_ ?_ _ | refine bD_ ?_ | refine bA_ ?_ _)); exact BK141.out) hb); have n1_ := Aside0.mk (below_step (by repeat (first | (with_reducible first | exact HB.out | apply zA_ | apply zN_ | apply zD_ | refine below_set ?_ GE141.out) | exact HB.out)) hb); have n2_ := Aside0.mk (hbox); have n3_ := Aside0.mk ((by rw [hg]; exact (below_size (by repeat (first | (with_reducible first | exact HB.out | apply zA_ | apply zN_ | apply zD_ | refine below_set ?_ GE141.out) | exact HB.out))) : w.heap.size ≤ gb162)); have n4_ := Aside0.mk ((by rw [hg]; exact (below_size (by repeat (first | (with_reducible first | exact HB.out | apply zA_ | apply zN_ | apply zD_ | refine below_set ?_ GE141.out) | exact HB.out))) : w.heap.size ≤ gb162)); have n5_ := Aside0.mk ((by rw [hg]; exact Nat.ne_of_lt (blk_lt (g := gb141) (o := .cells #[.string a0_0, .int .i64 a0_1, .int .i64 a0_2, .int .i64 a0_3, .bool a0_4, .bool a0_5, .slice A0_6 l0_6.length c0_6] 24 (0, 0)) (by (with_reducible repeat (first | refine bN_ ?_ _ | refine bD_ ?_ | refine bA_ ?_ _)); exact BK141.out)) : gb141 ≠ gb162)); have n6_ := Aside0.mk ((by rw [hg]; exact Nat.ne_of_gt (blk_lt (g := gb141) (o := .cells #[.string a0_0, .int .i64 a0_1, .int .i64 a0_2, .int .i64 a0_3, .bool a0_4, .bool a0_5, .slice A0_6 l0_6.length c0_6] 24 (0, 0)) (by (with_reducible repeat (first | refine bN_ ?_ _ | refine bD_ ?_ | refine bA_ ?_ _)); exact BK141.out)) : gb162 ≠ gb141)); clear BK141; clear HB; have BK141 := n0_; have HB := n1_; have BK162 := n2_; have GW162 := n3_; have GE162 := n4_; have NB141_162 := n5_; have NB162_141 := n6_; clear n0_ n1_ n2_ n3_ n4_ n5_ n6_; clear hb hbox hg) | ((with_reducible refine gate_dst (N := 12) rfl ?_); refine box_event ?hg (N := 12) ?hd (cs := #[.bool false, .bool false, .bool false, .bool false, .bool false, .bool false, .int .i64 0, .int .i64 0, .int .i64 0, .int .i64 0]) (t := 57) ?hr ?_; (case hd => rfl); (case hg => rfl); (case hr => first | (go_simp; done) | (go_simp; rfl)); intro gb163 hg w16 hbox hb; have n0_ := Aside0.mk (blk_below (g := gb141) (o := .cells #[.string a0_0, .int .i64 a0_1, .int .i64 a0_2, .int .i64 a0_3, .bool a0_4, .bool a0_5, .slice A0_6 l0_6.length c0_6] 24 (0, 0)) (by (with_reducible repeat (first | refine bN_ ?_ _ | refine bD_ ?_ | refine bA_ ?_ _)); exact BK141.out) hb); have n1_ := Aside0.mk (blk_below (g := gb162) (o := .cells #[.bool false, .bool false, .bool false, .bool false, .bool false, .bool false, .int .i64 0, .int .i64 0, .int .i64 0, .int .i64 0] 57 (0, 0)) (by (with_reducible repeat (first | refine bN_ ?_ _ | refine bD_ ?_ | refine bA_ ?_ _)); exact BK162.out) hb); have n2_ := Aside0.mk (below_step (by repeat (first | (with_reducible first | exact HB.out | apply zA_ | apply zN_ | apply zD_ | refine below_set ?_ GE141.out | refine below_set ?_ GE162.out) | exact HB.out)) hb); have n3_ := Aside0.mk (hbox); have n4_ := Aside0.mk ((by rw [hg]; exact (below_size (by repeat (first | (with_reducible first | exact HB.out | apply zA_ | apply zN_ | apply zD_ | refine below_set ?_ GE141.out | refine below_set ?_ GE162.out) | exact HB.out))) : w.heap.size ≤ gb163)); have n5_ := Aside0.mk ((by rw [hg]; exact (below_size (by repeat (first | (with_reducible first | exact HB.out | apply zA_ | apply zN_ | apply zD_ | refine below_set ?_ GE141.out | refine below_set ?_ GE162.out) | exact HB.out))) : w.heap.size ≤ gb163)); have n6_ := Aside0.mk ((by rw [hg]; exact Nat.ne_of_lt (blk_lt (g := gb141) (o := .cells #[.string a0_0, .int .i64 a0_1, .int .i64 a0_2, .int .i64 a0_3, .bool a0_4, .bool a0_5, .slice A0_6 l0_6.length c0_6] 24 (0, 0)) (by (with_reducible repeat (first | refine bN_ ?_ _ | refine bD_ ?_ | refine bA_ ?_ _)); exact BK141.out)) : gb141 ≠ gb163)); have n7_ := Aside0.mk ((by rw [hg]; exact Nat.ne_of_gt (blk_lt (g := gb141) (o := .cells #[.string a0_0, .int .i64 a0_1, .int .i64 a0_2, .int .i64 a0_3, .bool a0_4, .bool a0_5, .slice A0_6 l0_6.length c0_6] 24 (0, 0)) (by (with_reducible repeat (first | refine bN_ ?_ _ | refine bD_ ?_ | refine bA_ ?_ _)); exact BK141.out)) : gb163 ≠ gb141)); have n8_ := Aside0.mk ((by rw [hg]; exact Nat.ne_of_lt (blk_lt (g := gb162) (o := .cells #[.bool false, .bool false, .bool false, .bool false, .bool false, .bool false, .int .i64 0, .int .i64 0, .int .i64 0, .int .i64 0] 57 (0, 0)) (by (with_reducible repeat (first | refine bN_ ?_ _ | refine bD_ ?_ | refine bA_ ?_ _)); exact BK162.out)) : gb162 ≠ gb163)); have n9_ := Aside0.mk ((by rw [hg]; exact Nat.ne_of_gt (blk_lt (g := gb162) (o := .cells #[.bool false, .bool false, .bool false, .bool false, .bool false, .bool false, .int .i64 0, .int .i64 0, .int .i64 0, .int .i64 0] 57 (0, 0)) (by (with_reducible repeat (first | refine bN_ ?_ _ | refine bD_ ?_ | refine bA_ ?_ _)); exact BK162.out)) : gb163 ≠ gb162)); clear BK141; clear BK162; clear HB; have BK141 := n0_; have BK162 := n1_; have HB := n2_; have BK163 := n3_; have GW163 := n4_; have GE163 := n5_; have NB141_163 := n6_; have NB163_141 := n7_; have NB162_163 := n8_; have NB163_162 := n9_; clear n0_ n1_ n2_ n3_ n4_ n5_ n6_ n7_ n8_ n9_; clear hb hbox hg; have hnb17 := NB162_141.out; have hnc17 := NB141_162.out; have hnb18 := NB162_163.out; have hnc18 := NB163_162.out; have hcz19_0 : w16.cell? ⟨gb162, 0, none⟩ = some (.bool false) := (blk_cell BK162.out 0).trans rfl; have hcz19_1 : w16.cell? ⟨gb162, 1, none⟩ = some (.bool false) := (blk_cell BK162.out 1).trans rfl; have hcz19_2 : w16.cell? ⟨gb162, 2, none⟩ = some (.bool false) := (blk_cell BK162.out 2).trans rfl; have hcz19_3 : w16.cell? ⟨gb162, 3, none⟩ = some (.bool false) := (blk_cell BK162.out 3).trans rfl; have hcz19_4 : w16.cell? ⟨gb162, 4, none⟩ = some (.bool false) := (blk_cell BK162.out 4).trans rfl; have hcz19_5 : w16.cell? ⟨gb162, 5, none⟩ = some (.bool false) := (blk_cell BK162.out 5).trans rfl; have hcz19_6 : w16.cell? ⟨gb162, 6, none⟩ = some (.int .i64 0) := (blk_cell BK162.out 6).trans rfl; have hcz19_7 : w16.cell? ⟨gb162, 7, none⟩ = some (.int .i64 0) := (blk_cell BK162.out 7).trans rfl; have hcz19_8 : w16.cell? ⟨gb162, 8, none⟩ = some (.int .i64 0) := (blk_cell BK162.out 8).trans rfl; have hcz19_9 : w16.cell? ⟨gb162, 9, none⟩ = some (.int .i64 0) := (blk_cell BK162.out 9).trans rfl; have hfz19_0 := blk_frozen BK162.out 0; have hfz19_1 := blk_frozen BK162.out 1; have hfz19_2 := blk_frozen BK162.out 2; have hfz19_3 := blk_frozen BK162.out 3; have hfz19_4 := blk_frozen BK162.out 4; have hfz19_5 := blk_frozen BK162.out 5; have hfz19_6 := blk_frozen BK162.out 6; have hfz19_7 := blk_frozen BK162.out 7; have hfz19_8 := blk_frozen BK162.out 8; have hfz19_9 := blk_frozen BK162.out 9; have hnb20 := NB163_141.out; have hnc20 := NB141_163.out; have hcz21_0 : w16.cell? ⟨gb163, 0, none⟩ = some (.bool false) := (blk_cell BK163.out 0).trans rfl; have hcz21_1 : w16.cell? ⟨gb163, 1, none⟩ = some (.bool false) := (blk_cell BK163.out 1).trans rfl; have hcz21_2 : w16.cell? ⟨gb163, 2, none⟩ = some (.bool false) := (blk_cell BK163.out 2).trans rfl; have hcz21_3 : w16.cell? ⟨gb163, 3, none⟩ = some (.bool false) := (blk_cell BK163.out 3).trans rfl; have hcz21_4 : w16.cell? ⟨gb163, 4, none⟩ = some (.bool false) := (blk_cell BK163.out 4).trans rfl; have hcz21_5 : w16.cell? ⟨gb163, 5, none⟩ = some (.bool false) := (blk_cell BK163.out 5).trans rfl; have hcz21_6 : w16.cell? ⟨gb163, 6, none⟩ = some (.int .i64 0) := (blk_cell BK163.out 6).trans rfl; have hcz21_7 : w16.cell? ⟨gb163, 7, none⟩ = some (.int .i64 0) := (blk_cell BK163.out 7).trans rfl; have hcz21_8 : w16.cell? ⟨gb163, 8, none⟩ = some (.int .i64 0) := (blk_cell BK163.out 8).trans rfl; have hcz21_9 : w16.cell? ⟨gb163, 9, none⟩ = some (.int .i64 0) := (blk_cell BK163.out 9).trans rfl; have hfz21_0 := blk_frozen BK163.out 0; have hfz21_1 := blk_frozen BK163.out 1; have hfz21_2 := blk_frozen BK163.out 2; have hfz21_3 := blk_frozen BK163.out 3; have hfz21_4 := blk_frozen BK163.out 4; have hfz21_5 := blk_frozen BK163.out 5; have hfz21_6 := blk_frozen BK163.out 6; have hfz21_7 := blk_frozen BK163.out 7; have hfz21_8 := blk_frozen BK163.out 8; have hfz21_9 := blk_frozen BK163.out 9) | ((with_reducible refine gate_callee (f := 28) rfl ?_); refine goesL_ (some 25) rfl rfl Tryz.func28 (by kernel_rfl) rfl #[.slice A2 l2.length c2, .string (⟨#[65, 117, 116, 104, 111, 114, 105, 122, 97, 116, 105, 111, 110]⟩ : ByteArray)] rfl (by (try simp only [mA_, mC_, mN_]); first | done | rfl | (simp only [List.length_drop, List.length_take]; rfl)) ?_; (with_reducible refine (field_List_Get.calls k _ _ l2 (⟨#[65, 117, 116, 104, 111, 114, 105, 122, 97, 116, 105, 111, 110]⟩ : ByteArray) t164 t165 _ ?side1 ?side2 A8.out).mono ?_); (case side1 => exact Kd.C_below HR2.out (by repeat (first | (with_reducible first | exact HB.out | apply zA_ | apply zN_ | apply zD_ | refine below_set ?_ GE141.out | refine below_set ?_ GE162.out | refine below_set ?_ GE163.out) | exact HB.out))); (case side2 => exact HC2.out); rintro e w22 ⟨rfl, hb⟩; refine ⟨_, rfl, ?_⟩; have n0_ := Aside0.mk (blk_below (g := gb141) (o := .cells #[.string a0_0, .int .i64 a0_1, .int .i64 a0_2, .int .i64 a0_3, .bool a0_4, .bool a0_5, .slice A0_6 l0_6.length c0_6] 24 (0, 0)) (by (with_reducible repeat (first | refine bN_ ?_ _ | refine bD_ ?_ | refine bA_ ?_ _)); refine blk_far ?_ NB141_163.out _; (with_reducible repeat (first | refine bN_ ?_ _ | refine bD_ ?_ | refine bA_ ?_ _)); refine blk_far ?_ NB141_163.out _; (with_reducible repeat (first | refine bN_ ?_ _ | refine bD_ ?_ | refine bA_ ?_ _)); refine blk_far ?_ NB141_163.out _; (with_reducible repeat (first | refine bN_ ?_ _ | refine bD_ ?_ | refine bA_ ?_ _)); refine blk_far ?_ NB141_163.out _; (with_reducible repeat (first | refine bN_ ?_ _ | refine bD_ ?_ | refine bA_ ?_ _)); refine blk_far ?_ NB141_163.out _; (with_reducible repeat (first | refine bN_ ?_ _ | refine bD_ ?_ | refine bA_ ?_ _)); refine blk_far ?_ NB141_163.out _; (with_reducible repeat (first | refine bN_ ?_ _ | refine bD_ ?_ | refine bA_ ?_ _)); refine blk_far ?_ NB141_163.out _; (with_reducible repeat (first | refine bN_ ?_ _ | refine bD_ ?_ | refine bA_ ?_ _)); refine blk_far ?_ NB141_163.out _; (with_reducible repeat (first | refine bN_ ?_ _ | refine bD_ ?_ | refine bA_ ?_ _)); refine blk_far ?_ NB141_163.out _; (with_reducible repeat (first | refine bN_ ?_ _ | refine bD_ ?_ | refine bA_ ?_ _)); refine blk_far ?_ NB141_163.out _; (with_reducible repeat (first | refine bN_ ?_ _ | refine bD_ ?_ | refine bA_ ?_ _)); refine blk_far ?_ NB141_162.out _; (with_reducible repeat (first | refine bN_ ?_ _ | refine bD_ ?_ | refine bA_ ?_ _)); refine blk_far ?_ NB141_162.out _; (with_reducible repeat (first | refine bN_ ?_ _ | refine bD_ ?_ | refine bA_ ?_ _)); refine blk_far ?_ NB141_162.out _; (with_reducible repeat (first | refine bN_ ?_ _ | refine bD_ ?_ | refine bA_ ?_ _)); refine blk_far ?_ NB141_162.out _; (with_reducible repeat (first | refine bN_ ?_ _ | refine bD_ ?_ | refine bA_ ?_ _)); refine blk_far ?_ NB141_162.out _; (with_reducible repeat (first | refine bN_ ?_ _ | refine bD_ ?_ | refine bA_ ?_ _)); refine blk_far ?_ NB141_162.out _; (with_reducible repeat (first | refine bN_ ?_ _ | refine bD_ ?_ | refine bA_ ?_ _)); refine blk_far ?_ NB141_162.out _; (with_reducible repeat (first | refine bN_ ?_ _ | refine bD_ ?_ | refine bA_ ?_ _)); refine blk_far ?_ NB141_162.out _; (with_reducible repeat (first | refine bN_ ?_ _ | refine bD_ ?_ | refine bA_ ?_ _)); refine blk_far ?_ NB141_162.out _; (with_reducible repeat (first | refine bN_ ?_ _ | refine bD_ ?_ | refine bA_ ?_ _)); refine blk_far ?_ NB141_162.out _; (with_reducible repeat (first | refine bN_ ?_ _ | refine bD_ ?_ | refine bA_ ?_ _)); exact BK141.out) hb); have n1_ := Aside0.mk (blk_below (g := gb162) (o := .cells #[.bool t142, .bool t143, .bool t144, .bool t145, .bool t146, .bool t147, .int .i64 t148, .int .i64 t149, .int .i64 t150, .int .i64 t151] 57 (0, 0)) (by (with_reducible repeat (first | refine bN_ ?_ _ | refine bD_ ?_ | refine bA_ ?_ _)); refine blk_far ?_ NB162_163.out _; (with_reducible repeat (first | refine bN_ ?_ _ | refine bD_ ?_ | refine bA_ ?_ _)); refine blk_far ?_ NB162_163.out _; (with_reducible repeat (first | refine bN_ ?_ _ | refine bD_ ?_ | refine bA_ ?_ _)); refine blk_far ?_ NB162_163.out _; (with_reducible repeat (first | refine bN_ ?_ _ | refine bD_ ?_ | refine bA_ ?_ _)); refine blk_far ?_ NB162_163.out _; (with_reducible repeat (first | refine bN_ ?_ _ | refine bD_ ?_ | refine bA_ ?_ _)); refine blk_far ?_ NB162_163.out _; (with_reducible repeat (first | refine bN_ ?_ _ | refine bD_ ?_ | refine bA_ ?_ _)); refine blk_far ?_ NB162_163.out _; (with_reducible repeat (first | refine bN_ ?_ _ | refine bD_ ?_ | refine bA_ ?_ _)); refine blk_far ?_ NB162_163.out _; (with_reducible repeat (first | refine bN_ ?_ _ | refine bD_ ?_ | refine bA_ ?_ _)); refine blk_far ?_ NB162_163.out _; (with_reducible repeat (first | refine bN_ ?_ _ | refine bD_ ?_ | refine bA_ ?_ _)); refine blk_far ?_ NB162_163.out _; (with_reducible repeat (first | refine bN_ ?_ _ | refine bD_ ?_ | refine bA_ ?_ _)); refine blk_far ?_ NB162_163.out _; (with_reducible repeat (first | refine bN_ ?_ _ | refine bD_ ?_ | refine bA_ ?_ _)); refine blk_put (cs := #[.bool t142, .bool t143, .bool t144, .bool t145, .bool t146, .bool t147, .int .i64 t148, .int .i64 t149, .int .i64 t150, .int .i64 0]) ?_ 9 _ rfl; (with_reducible repeat (first | refine bN_ ?_ _ | refine bD_ ?_ | refine bA_ ?_ _)); refine blk_put (cs := #[.bool t142, .bool t143, .bool t144, .bool t145, .bool t146, .bool t147, .int .i64 t148, .int .i64 t149, .int .i64 0, .int .i64 0]) ?_ 8 _ rfl; (with_reducible repeat (first | refine bN_ ?_ _ | refine bD_ ?_ | refine bA_ ?_ _)); refine blk_put (cs := #[.bool t142, .bool t143, .bool t144, .bool t145, .bool t146, .bool t147, .int .i64 t148, .int .i64 0, .int .i64 0, .int .i64 0]) ?_ 7 _ rfl; (with_reducible repeat (first | refine bN_ ?_ _ | refine bD_ ?_ | refine bA_ ?_ _)); refine blk_put (cs := #[.bool t142, .bool t143, .bool t144, .bool t145, .bool t146, .bool t147, .int .i64 0, .int .i64 0, .int .i64 0, .int .i64 0]) ?_ 6 _ rfl; (with_reducible repeat (first | refine bN_ ?_ _ | refine bD_ ?_ | refine bA_ ?_ _)); refine blk_put (cs := #[.bool t142, .bool t143, .bool t144, .bool t145, .bool t146, .bool false, .int .i64 0, .int .i64 0, .int .i64 0, .int .i64 0]) ?_ 5 _ rfl; (with_reducible repeat (first | refine bN_ ?_ _ | refine bD_ ?_ | refine bA_ ?_ _)); refine blk_put (cs := #[.bool t142, .bool t143, .bool t144, .bool t145, .bool false, .bool false, .int .i64 0, .int .i64 0, .int .i64 0, .int .i64 0]) ?_ 4 _ rfl; (with_reducible repeat (first | refine bN_ ?_ _ | refine bD_ ?_ | refine bA_ ?_ _)); refine blk_put (cs := #[.bool t142, .bool t143, .bool t144, .bool false, .bool false, .bool false, .int .i64 0, .int .i64 0, .int .i64 0, .int .i64 0]) ?_ 3 _ rfl; (with_reducible repeat (first | refine bN_ ?_ _ | refine bD_ ?_ | refine bA_ ?_ _)); refine blk_put (cs := #[.bool t142, .bool t143, .bool false, .bool false, .bool false, .bool false, .int .i64 0, .int .i64 0, .int .i64 0, .int .i64 0]) ?_ 2 _ rfl; (with_reducible repeat (first | refine bN_ ?_ _ | refine bD_ ?_ | refine bA_ ?_ _)); refine blk_put (cs := #[.bool t142, .bool false, .bool false, .bool false, .bool false, .bool false, .int .i64 0, .int .i64 0, .int .i64 0, .int .i64 0]) ?_ 1 _ rfl; (with_reducible repeat (first | refine bN_ ?_ _ | refine bD_ ?_ | refine bA_ ?_ _)); refine blk_put (cs := #[.bool false, .bool false, .bool false, .bool false, .bool false, .bool false, .int .i64 0, .int .i64 0, .int .i64 0, .int .i64 0]) ?_ 0 _ rfl; (with_reducible repeat (first | refine bN_ ?_ _ | refine bD_ ?_ | refine bA_ ?_ _)); exact BK162.out) hb); have n2_ := Aside0.mk (blk_below (g := gb163) (o := .cells #[.bool t152, .bool t153, .bool t154, .bool t155, .bool t156, .bool t157, .int .i64 t158, .int .i64 t159, .int .i64 t160, .int .i64 t161] 57 (0, 0)) (by (with_reducible repeat (first | refine bN_ ?_ _ | refine bD_ ?_ | refine bA_ ?_ _)); refine blk_put (cs := #[.bool t152, .bool t153, .bool t154, .bool t155, .bool t156, .bool t157, .int .i64 t158, .int .i64 t159, .int .i64 t160, .int .i64 0]) ?_ 9 _ rfl; (with_reducible repeat (first | refine bN_ ?_ _ | refine bD_ ?_ | refine bA_ ?_ _)); refine blk_put (cs := #[.bool t152, .bool t153, .bool t154, .bool t155, .bool t156, .bool t157, .int .i64 t158, .int .i64 t159, .int .i64 0, .int .i64 0]) ?_ 8 _ rfl; (with_reducible repeat (first | refine bN_ ?_ _ | refine bD_ ?_ | refine bA_ ?_ _)); refine blk_put (cs := #[.bool t152, .bool t153, .bool t154, .bool t155, .bool t156, .bool t157, .int .i64 t158, .int .i64 0, .int .i64 0, .int .i64 0]) ?_ 7 _ rfl; (with_reducible repeat (first | refine bN_ ?_ _ | refine bD_ ?_ | refine bA_ ?_ _)); refine blk_put (cs := #[.bool t152, .bool t153, .bool t154, .bool t155, .bool t156, .bool t157, .int .i64 0, .int .i64 0, .int .i64 0, .int .i64 0]) ?_ 6 _ rfl; (with_reducible repeat (first | refine bN_ ?_ _ | refine bD_ ?_ | refine bA_ ?_ _)); refine blk_put (cs := #[.bool t152, .bool t153, .bool t154, .bool t155, .bool t156, .bool false, .int .i64 0, .int .i64 0, .int .i64 0, .int .i64 0]) ?_ 5 _ rfl; (with_reducible repeat (first | refine bN_ ?_ _ | refine bD_ ?_ | refine bA_ ?_ _)); refine blk_put (cs := #[.bool t152, .bool t153, .bool t154, .bool t155, .bool false, .bool false, .int .i64 0, .int .i64 0, .int .i64 0, .int .i64 0]) ?_ 4 _ rfl; (with_reducible repeat (first | refine bN_ ?_ _ | refine bD_ ?_ | refine bA_ ?_ _)); refine blk_put (cs := #[.bool t152, .bool t153, .bool t154, .bool false, .bool false, .bool false, .int .i64 0, .int .i64 0, .int .i64 0, .int .i64 0]) ?_ 3 _ rfl; (with_reducible repeat (first | refine bN_ ?_ _ | refine bD_ ?_ | refine bA_ ?_ _)); refine blk_put (cs := #[.bool t152, .bool t153, .bool false, .bool false, .bool false, .bool false, .int .i64 0, .int .i64 0, .int .i64 0, .int .i64 0]) ?_ 2 _ rfl; (with_reducible repeat (first | refine bN_ ?_ _ | refine bD_ ?_ | refine bA_ ?_ _)); refine blk_put (cs := #[.bool t152, .bool false, .bool false, .bool false, .bool false, .bool false, .int .i64 0, .int .i64 0, .int .i64 0, .int .i64 0]) ?_ 1 _ rfl; (with_reducible repeat (first | refine bN_ ?_ _ | refine bD_ ?_ | refine bA_ ?_ _)); refine blk_put (cs := #[.bool false, .bool false, .bool false, .bool false, .bool false, .bool false, .int .i64 0, .int .i64 0, .int .i64 0, .int .i64 0]) ?_ 0 _ rfl; (with_reducible repeat (first | refine bN_ ?_ _ | refine bD_ ?_ | refine bA_ ?_ _)); refine blk_far ?_ NB163_162.out _; (with_reducible repeat (first | refine bN_ ?_ _ | refine bD_ ?_ | refine bA_ ?_ _)); refine blk_far ?_ NB163_162.out _; (with_reducible repeat (first | refine bN_ ?_ _ | refine bD_ ?_ | refine bA_ ?_ _)); refine blk_far ?_ NB163_162.out _; (with_reducible repeat (first | refine bN_ ?_ _ | refine bD_ ?_ | refine bA_ ?_ _)); refine blk_far ?_ NB163_162.out _; (with_reducible repeat (first | refine bN_ ?_ _ | refine bD_ ?_ | refine bA_ ?_ _)); refine blk_far ?_ NB163_162.out _; (with_reducible repeat (first | refine bN_ ?_ _ | refine bD_ ?_ | refine bA_ ?_ _)); refine blk_far ?_ NB163_162.out _; (with_reducible repeat (first | refine bN_ ?_ _ | refine bD_ ?_ | refine bA_ ?_ _)); refine blk_far ?_ NB163_162.out _; (with_reducible repeat (first | refine bN_ ?_ _ | refine bD_ ?_ | refine bA_ ?_ _)); refine blk_far ?_ NB163_162.out _; (with_reducible repeat (first | refine bN_ ?_ _ | refine bD_ ?_ | refine bA_ ?_ _)); refine blk_far ?_ NB163_162.out _; (with_reducible repeat (first | refine bN_ ?_ _ | refine bD_ ?_ | refine bA_ ?_ _)); refine blk_far ?_ NB163_162.out _; (with_reducible repeat (first | refine bN_ ?_ _ | refine bD_ ?_ | refine bA_ ?_ _)); exact BK163.out) hb); have n3_ := Aside0.mk (below_step (by repeat (first | (with_reducible first | exact HB.out | apply zA_ | apply zN_ | apply zD_ | refine below_set ?_ GE141.out | refine below_set ?_ GE162.out | refine below_set ?_ GE163.out) | exact HB.out)) hb); clear BK141; clear BK162; clear BK163; clear HB; have BK141 := n0_; have BK162 := n1_; have BK163 := n2_; have HB := n3_; clear n0_ n1_ n2_ n3_; (try clear hb); (try clear hb2); (try clear hk); (try clear hi)) | ((with_reducible refine gate_callee (f := 28) rfl ?_); refine goesL_ (some 30) rfl rfl Tryz.func28 (by kernel_rfl) rfl #[.slice A4 l4.length c4, .string (⟨#[69, 120, 112, 105, 114, 101, 115]⟩ : ByteArray)] rfl (by (try simp only [mA_, mC_, mN_]); first | done | rfl | (simp only [List.length_drop, List.length_take]; rfl)) ?_; (with_reducible refine (field_List_Get.calls k _ _ l4 (⟨#[69, 120, 112, 105, 114, 101, 115]⟩ : ByteArray) t166 t167 _ ?side1 ?side2 A9.out).mono ?_); (case side1 => repeat (first | exact (Kd.C_below HR4.out HB.out) | (with_reducible refine Kd.C_alloc ?_ _) | (with_reducible refine Kd.C_drewN ?_ _) | (with_reducible refine Kd.C_drew ?_))); (case side2 => exact HC4.out); rintro e w23 ⟨rfl, hb⟩; refine ⟨_, rfl, ?_⟩; have n0_ := Aside0.mk (blk_below (g := gb141) (o := .cells #[.string a0_0, .int .i64 a0_1, .int .i64 a0_2, .int .i64 a0_3, .bool a0_4, .bool a0_5, .slice A0_6 l0_6.length c0_6] 24 (0, 0)) (by (with_reducible repeat (first | refine bN_ ?_ _ | refine bD_ ?_ | refine bA_ ?_ _)); exact BK141.out) hb); have n1_ := Aside0.mk (blk_below (g := gb162) (o := .cells #[.bool t142, .bool t143, .bool t144, .bool t145, .bool t146, .bool t147, .int .i64 t148, .int .i64 t149, .int .i64 t150, .int .i64 t151] 57 (0, 0)) (by (with_reducible repeat (first | refine bN_ ?_ _ | refine bD_ ?_ | refine bA_ ?_ _)); exact BK162.out) hb); have n2_ := Aside0.mk (blk_below (g := gb163) (o := .cells #[.bool t152, .bool t153, .bool t154, .bool t155, .bool t156, .bool t157, .int .i64 t158, .int .i64 t159, .int .i64 t160, .int .i64 t161] 57 (0, 0)) (by (with_reducible repeat (first | refine bN_ ?_ _ | refine bD_ ?_ | refine bA_ ?_ _)); exact BK163.out) hb); have n3_ := Aside0.mk (below_step (by repeat (first | (with_reducible first | exact HB.out | apply zA_ | apply zN_ | apply zD_ | refine below_set ?_ GE141.out | refine below_set ?_ GE162.out | refine below_set ?_ GE163.out) | exact HB.out)) hb); clear BK141; clear BK162; clear BK163; clear HB; have BK141 := n0_; have BK162 := n1_; have BK163 := n2_; have HB := n3_; clear n0_ n1_ n2_ n3_; (try clear hb); (try clear hb2); (try clear hk); (try clear hi)) | ((with_reducible refine gate_callee (f := 29) rfl ?_); refine goesL_ (some 35) rfl rfl Tryz.func29 (by kernel_rfl) rfl #[.slice A4 l4.length c4] rfl (by (try simp only [mA_, mC_, mN_]); first | done | rfl | (simp only [List.length_drop, List.length_take]; rfl)) ?_; (with_reducible refine (key_Names.calls k _ _ l4 t168 t169 _ ?side1 ?side2 A10.out).mono ?_); (case side1 => repeat (first | exact (Kd.C_below HR4.out HB.out) | (with_reducible refine Kd.C_alloc ?_ _) | (with_reducible refine Kd.C_drewN ?_ _) | (with_reducible refine Kd.C_drew ?_))); (case side2 => exact HC4.out); rintro e w24 ⟨v170, rfl, ho0, hb⟩; refine ⟨_, rfl, ?_⟩; have n0_ := Aside0.mk (Kd.R_lower ho0 (below_size (by repeat (first | (with_reducible first | exact HB.out | apply zA_ | apply zN_ | apply zD_ | refine below_set ?_ GE141.out | refine below_set ?_ GE162.out | refine below_set ?_ GE163.out) | exact HB.out)))); have n1_ := Aside0.mk (blk_below (g := gb141) (o := .cells #[.string a0_0, .int .i64 a0_1, .int .i64 a0_2, .int .i64 a0_3, .bool a0_4, .bool a0_5, .slice A0_6 l0_6.length c0_6] 24 (0, 0)) (by (with_reducible repeat (first | refine bN_ ?_ _ | refine bD_ ?_ | refine bA_ ?_ _)); exact BK141.out) hb); have n2_ := Aside0.mk (blk_below (g := gb162) (o := .cells #[.bool t142, .bool t143, .bool t144, .bool t145, .bool t146, .bool t147, .int .i64 t148, .int .i64 t149, .int .i64 t150, .int .i64 t151] 57 (0, 0)) (by (with_reducible repeat (first | refine bN_ ?_ _ | refine bD_ ?_ | refine bA_ ?_ _)); exact BK162.out) hb); have n3_ := Aside0.mk (blk_below (g := gb163) (o := .cells #[.bool t152, .bool t153, .bool t154, .bool t155, .bool t156, .bool t157, .int .i64 t158, .int .i64 t159, .int .i64 t160, .int .i64 t161] 57 (0, 0)) (by (with_reducible repeat (first | refine bN_ ?_ _ | refine bD_ ?_ | refine bA_ ?_ _)); exact BK163.out) hb); have n4_ := Aside0.mk (below_step (by repeat (first | (with_reducible first | exact HB.out | apply zA_ | apply zN_ | apply zD_ | refine below_set ?_ GE141.out | refine below_set ?_ GE162.out | refine below_set ?_ GE163.out) | exact HB.out)) hb); clear BK141; clear BK162; clear BK163; clear HB; have HO171 := n0_; have BK141 := n1_; have BK162 := n2_; have BK163 := n3_; have HB := n4_; clear n0_ n1_ n2_ n3_ n4_; (try clear hb); (try clear hb2); (try clear hk); (try clear hi); (try clear ho0)))
 (try simp only [Act.put, sA_, sZ_, sS_])
 go_cut [38] (fun v38 wc => ∃ (kq : Nat) (x38_10 : Bool), v38 = .bool x38_10 ∧ Aside0 (fresh_Kept.j0 kq a3 t165 t167 x38_10 t152 t153 t154 t155 t156 t157 t158 t159 t160 t161 = some r) ∧ Aside0 (kq ≤ k) ∧ Aside0 (wc.heap[gb141]? = some (.cells #[.string a0_0, .int .i64 a0_1, .int .i64 a0_2, .int .i64 a0_3, .bool a0_4, .bool a0_5, (.slice A0_6 l0_6.length c0_6)] 24 (0, 0))) ∧ Aside0 (wc.heap[gb162]? = some (.cells #[.bool t142, .bool t143, .bool t144, .bool t145, .bool t146, .bool t147, .int .i64 t148, .int .i64 t149, .int .i64 t150, .int .i64 t151] 57 (0, 0))) ∧ Aside0 (wc.heap[gb163]? = some (.cells #[.bool t152, .bool t153, .bool t154, .bool t155, .bool t156, .bool t157, .int .i64 t158, .int .i64 t159, .int .i64 t160, .int .i64 t161] 57 (0, 0))) ∧ Aside0 (Below w.heap.size w wc))
 case first =>
  have H := HC11.out
  clear HC11
  by_cases c25 : a0_5 = true
  ·
   subst c25
   rw [if_pos rfl] at H
   by_cases c26 : a1.toList = ([71, 69, 84] : List UInt8)
   ·
    rw [if_pos c26] at H
    have c26b0 : (a1.toList == ([71, 69, 84] : List UInt8)) = true := beq_iff_eq.mpr c26
    have c26b1 : (a1.toList != ([71, 69, 84] : List UInt8)) = false := bne_eq_false_iff_eq.mpr c26
    clear c26
    (first | rw [c26b0] | (simp only [i64_w, i32_w]; rw [c26b0]) | skip)
    by_cases c27 : t142 = true
    ·
     subst c27
     rw [if_pos rfl] at H
     have H' := Aside0.mk H
     clear H
     have hnb28 := NB141_162.out
     have hnc28 := NB162_141.out
     have hnb29 := NB141_163.out
     have hnc29 := NB163_141.out
     have hcz30_0 : w24.cell? ⟨gb141, 0, none⟩ = some (.string a0_0) := (blk_cell BK141.out 0).trans rfl
     have hcz30_1 : w24.cell? ⟨gb141, 1, none⟩ = some (.int .i64 a0_1) := (blk_cell BK141.out 1).trans rfl
     have hcz30_2 : w24.cell? ⟨gb141, 2, none⟩ = some (.int .i64 a0_2) := (blk_cell BK141.out 2).trans rfl
     have hcz30_3 : w24.cell? ⟨gb141, 3, none⟩ = some (.int .i64 a0_3) := (blk_cell BK141.out 3).trans rfl
     have hcz30_4 : w24.cell? ⟨gb141, 4, none⟩ = some (.bool a0_4) := (blk_cell BK141.out 4).trans rfl
     have hcz30_5 : w24.cell? ⟨gb141, 5, none⟩ = some (.bool true) := (blk_cell BK141.out 5).trans rfl
     have hcz30_6 : w24.cell? ⟨gb141, 6, none⟩ = some (.slice A0_6 l0_6.length c0_6) := (blk_cell BK141.out 6).trans rfl
     have hfz30_0 := blk_frozen BK141.out 0
     have hfz30_1 := blk_frozen BK141.out 1
     have hfz30_2 := blk_frozen BK141.out 2
     have hfz30_3 := blk_frozen BK141.out 3
     have hfz30_4 := blk_frozen BK141.out 4
     have hfz30_5 := blk_frozen BK141.out 5
     have hfz30_6 := blk_frozen BK141.out 6
     have hnb31 := NB162_163.out
     have hnc31 := NB163_162.out
     have hcz32_0 : w24.cell? ⟨gb162, 0, none⟩ = some (.bool true) := (blk_cell BK162.out 0).trans rfl
     have hcz32_1 : w24.cell? ⟨gb162, 1, none⟩ = some (.bool t143) := (blk_cell BK162.out 1).trans rfl
     have hcz32_2 : w24.cell? ⟨gb162, 2, none⟩ = some (.bool t144) := (blk_cell BK162.out 2).trans rfl
     have hcz32_3 : w24.cell? ⟨gb162, 3, none⟩ = some (.bool t145) := (blk_cell BK162.out 3).trans rfl
     have hcz32_4 : w24.cell? ⟨gb162, 4, none⟩ = some (.bool t146) := (blk_cell BK162.out 4).trans rfl
     have hcz32_5 : w24.cell? ⟨gb162, 5, none⟩ = some (.bool t147) := (blk_cell BK162.out 5).trans rfl
     have hcz32_6 : w24.cell? ⟨gb162, 6, none⟩ = some (.int .i64 t148) := (blk_cell BK162.out 6).trans rfl
     have hcz32_7 : w24.cell? ⟨gb162, 7, none⟩ = some (.int .i64 t149) := (blk_cell BK162.out 7).trans rfl
     have hcz32_8 : w24.cell? ⟨gb162, 8, none⟩ = some (.int .i64 t150) := (blk_cell BK162.out 8).trans rfl
     have hcz32_9 : w24.cell? ⟨gb162, 9, none⟩ = some (.int .i64 t151) := (blk_cell BK162.out 9).trans rfl
     have hfz32_0 := blk_frozen BK162.out 0
     have hfz32_1 := blk_frozen BK162.out 1
     have hfz32_2 := blk_frozen BK162.out 2
     have hfz32_3 := blk_frozen BK162.out 3
     have hfz32_4 := blk_frozen BK162.out 4
     have hfz32_5 := blk_frozen BK162.out 5
     have hfz32_6 := blk_frozen BK162.out 6
     have hfz32_7 := blk_frozen BK162.out 7
     have hfz32_8 := blk_frozen BK162.out 8
     have hfz32_9 := blk_frozen BK162.out 9
     go_wp2
     go_meet
     case rel => exact ⟨_, (true), (by first | rfl | (simp; done) | (simp [*]; done)), H', ⟨by first | omega | exact Nat.le_refl _⟩, ⟨by (with_reducible repeat (first | refine bN_ ?_ _ | refine bD_ ?_ | refine bA_ ?_ _)); exact BK141.out⟩, ⟨by (with_reducible repeat (first | refine bN_ ?_ _ | refine bD_ ?_ | refine bA_ ?_ _)); exact BK162.out⟩, ⟨by (with_reducible repeat (first | refine bN_ ?_ _ | refine bD_ ?_ | refine bA_ ?_ _)); exact BK163.out⟩, ⟨by repeat (first | (with_reducible first | exact HB.out | apply zA_ | apply zN_ | apply zD_ | refine below_set ?_ GE141.out | refine below_set ?_ GE162.out | refine below_set ?_ GE163.out) | exact HB.out)⟩⟩
    ·
     replace c27 := Bool.eq_false_iff.mpr c27
     subst c27
     rw [if_neg (show ¬ (false = true) by decide)] at H
     by_cases c33 : t152 = true
     ·
      subst c33
      rw [if_pos rfl] at H
      have H' := Aside0.mk H
      clear H
      have hnb34 := NB141_162.out
      have hnc34 := NB162_141.out
      have hnb35 := NB141_163.out
      have hnc35 := NB163_141.out
      have hcz36_0 : w24.cell? ⟨gb141, 0, none⟩ = some (.string a0_0) := (blk_cell BK141.out 0).trans rfl
      have hcz36_1 : w24.cell? ⟨gb141, 1, none⟩ = some (.int .i64 a0_1) := (blk_cell BK141.out 1).trans rfl
      have hcz36_2 : w24.cell? ⟨gb141, 2, none⟩ = some (.int .i64 a0_2) := (blk_cell BK141.out 2).trans rfl
      have hcz36_3 : w24.cell? ⟨gb141, 3, none⟩ = some (.int .i64 a0_3) := (blk_cell BK141.out 3).trans rfl
      have hcz36_4 : w24.cell? ⟨gb141, 4, none⟩ = some (.bool a0_4) := (blk_cell BK141.out 4).trans rfl
      have hcz36_5 : w24.cell? ⟨gb141, 5, none⟩ = some (.bool true) := (blk_cell BK141.out 5).trans rfl
      have hcz36_6 : w24.cell? ⟨gb141, 6, none⟩ = some (.slice A0_6 l0_6.length c0_6) := (blk_cell BK141.out 6).trans rfl
      have hfz36_0 := blk_frozen BK141.out 0
      have hfz36_1 := blk_frozen BK141.out 1
      have hfz36_2 := blk_frozen BK141.out 2
      have hfz36_3 := blk_frozen BK141.out 3
      have hfz36_4 := blk_frozen BK141.out 4
      have hfz36_5 := blk_frozen BK141.out 5
      have hfz36_6 := blk_frozen BK141.out 6
      have hnb37 := NB162_163.out
      have hnc37 := NB163_162.out
      have hcz38_0 : w24.cell? ⟨gb162, 0, none⟩ = some (.bool false) := (blk_cell BK162.out 0).trans rfl
      have hcz38_1 : w24.cell? ⟨gb162, 1, none⟩ = some (.bool t143) := (blk_cell BK162.out 1).trans rfl
      have hcz38_2 : w24.cell? ⟨gb162, 2, none⟩ = some (.bool t144) := (blk_cell BK162.out 2).trans rfl
      have hcz38_3 : w24.cell? ⟨gb162, 3, none⟩ = some (.bool t145) := (blk_cell BK162.out 3).trans rfl
      have hcz38_4 : w24.cell? ⟨gb162, 4, none⟩ = some (.bool t146) := (blk_cell BK162.out 4).trans rfl
      have hcz38_5 : w24.cell? ⟨gb162, 5, none⟩ = some (.bool t147) := (blk_cell BK162.out 5).trans rfl
      have hcz38_6 : w24.cell? ⟨gb162, 6, none⟩ = some (.int .i64 t148) := (blk_cell BK162.out 6).trans rfl
      have hcz38_7 : w24.cell? ⟨gb162, 7, none⟩ = some (.int .i64 t149) := (blk_cell BK162.out 7).trans rfl
      have hcz38_8 : w24.cell? ⟨gb162, 8, none⟩ = some (.int .i64 t150) := (blk_cell BK162.out 8).trans rfl
      have hcz38_9 : w24.cell? ⟨gb162, 9, none⟩ = some (.int .i64 t151) := (blk_cell BK162.out 9).trans rfl
      have hfz38_0 := blk_frozen BK162.out 0
      have hfz38_1 := blk_frozen BK162.out 1
      have hfz38_2 := blk_frozen BK162.out 2
      have hfz38_3 := blk_frozen BK162.out 3
      have hfz38_4 := blk_frozen BK162.out 4
      have hfz38_5 := blk_frozen BK162.out 5
      have hfz38_6 := blk_frozen BK162.out 6
      have hfz38_7 := blk_frozen BK162.out 7
      have hfz38_8 := blk_frozen BK162.out 8
      have hfz38_9 := blk_frozen BK162.out 9
      have hcz39_0 : w24.cell? ⟨gb163, 0, none⟩ = some (.bool true) := (blk_cell BK163.out 0).trans rfl
      have hcz39_1 : w24.cell? ⟨gb163, 1, none⟩ = some (.bool t153) := (blk_cell BK163.out 1).trans rfl
      have hcz39_2 : w24.cell? ⟨gb163, 2, none⟩ = some (.bool t154) := (blk_cell BK163.out 2).trans rfl
      have hcz39_3 : w24.cell? ⟨gb163, 3, none⟩ = some (.bool t155) := (blk_cell BK163.out 3).trans rfl
      have hcz39_4 : w24.cell? ⟨gb163, 4, none⟩ = some (.bool t156) := (blk_cell BK163.out 4).trans rfl
      have hcz39_5 : w24.cell? ⟨gb163, 5, none⟩ = some (.bool t157) := (blk_cell BK163.out 5).trans rfl
      have hcz39_6 : w24.cell? ⟨gb163, 6, none⟩ = some (.int .i64 t158) := (blk_cell BK163.out 6).trans rfl
      have hcz39_7 : w24.cell? ⟨gb163, 7, none⟩ = some (.int .i64 t159) := (blk_cell BK163.out 7).trans rfl
      have hcz39_8 : w24.cell? ⟨gb163, 8, none⟩ = some (.int .i64 t160) := (blk_cell BK163.out 8).trans rfl
      have hcz39_9 : w24.cell? ⟨gb163, 9, none⟩ = some (.int .i64 t161) := (blk_cell BK163.out 9).trans rfl
      have hfz39_0 := blk_frozen BK163.out 0
      have hfz39_1 := blk_frozen BK163.out 1
      have hfz39_2 := blk_frozen BK163.out 2
      have hfz39_3 := blk_frozen BK163.out 3
      have hfz39_4 := blk_frozen BK163.out 4
      have hfz39_5 := blk_frozen BK163.out 5
      have hfz39_6 := blk_frozen BK163.out 6
      have hfz39_7 := blk_frozen BK163.out 7
      have hfz39_8 := blk_frozen BK163.out 8
      have hfz39_9 := blk_frozen BK163.out 9
      go_wp2
      go_meet
      case rel => exact ⟨_, (true), (by first | rfl | (simp; done) | (simp [*]; done)), H', ⟨by first | omega | exact Nat.le_refl _⟩, ⟨by (with_reducible repeat (first | refine bN_ ?_ _ | refine bD_ ?_ | refine bA_ ?_ _)); exact BK141.out⟩, ⟨by (with_reducible repeat (first | refine bN_ ?_ _ | refine bD_ ?_ | refine bA_ ?_ _)); exact BK162.out⟩, ⟨by (with_reducible repeat (first | refine bN_ ?_ _ | refine bD_ ?_ | refine bA_ ?_ _)); exact BK163.out⟩, ⟨by repeat (first | (with_reducible first | exact HB.out | apply zA_ | apply zN_ | apply zD_ | refine below_set ?_ GE141.out | refine below_set ?_ GE162.out | refine below_set ?_ GE163.out) | exact HB.out)⟩⟩
     ·
      replace c33 := Bool.eq_false_iff.mpr c33
      subst c33
      rw [if_neg (show ¬ (false = true) by decide)] at H
      by_cases c40 : t154 = true
      ·
       subst c40
       rw [if_pos rfl] at H
       have H' := Aside0.mk H
       clear H
       have hnb41 := NB141_162.out
       have hnc41 := NB162_141.out
       have hnb42 := NB141_163.out
       have hnc42 := NB163_141.out
       have hcz43_0 : w24.cell? ⟨gb141, 0, none⟩ = some (.string a0_0) := (blk_cell BK141.out 0).trans rfl
       have hcz43_1 : w24.cell? ⟨gb141, 1, none⟩ = some (.int .i64 a0_1) := (blk_cell BK141.out 1).trans rfl
       have hcz43_2 : w24.cell? ⟨gb141, 2, none⟩ = some (.int .i64 a0_2) := (blk_cell BK141.out 2).trans rfl
       have hcz43_3 : w24.cell? ⟨gb141, 3, none⟩ = some (.int .i64 a0_3) := (blk_cell BK141.out 3).trans rfl
       have hcz43_4 : w24.cell? ⟨gb141, 4, none⟩ = some (.bool a0_4) := (blk_cell BK141.out 4).trans rfl
       have hcz43_5 : w24.cell? ⟨gb141, 5, none⟩ = some (.bool true) := (blk_cell BK141.out 5).trans rfl
       have hcz43_6 : w24.cell? ⟨gb141, 6, none⟩ = some (.slice A0_6 l0_6.length c0_6) := (blk_cell BK141.out 6).trans rfl
       have hfz43_0 := blk_frozen BK141.out 0
       have hfz43_1 := blk_frozen BK141.out 1
       have hfz43_2 := blk_frozen BK141.out 2
       have hfz43_3 := blk_frozen BK141.out 3
       have hfz43_4 := blk_frozen BK141.out 4
       have hfz43_5 := blk_frozen BK141.out 5
       have hfz43_6 := blk_frozen BK141.out 6
       have hnb44 := NB162_163.out
       have hnc44 := NB163_162.out
       have hcz45_0 : w24.cell? ⟨gb162, 0, none⟩ = some (.bool false) := (blk_cell BK162.out 0).trans rfl
       have hcz45_1 : w24.cell? ⟨gb162, 1, none⟩ = some (.bool t143) := (blk_cell BK162.out 1).trans rfl
       have hcz45_2 : w24.cell? ⟨gb162, 2, none⟩ = some (.bool t144) := (blk_cell BK162.out 2).trans rfl
       have hcz45_3 : w24.cell? ⟨gb162, 3, none⟩ = some (.bool t145) := (blk_cell BK162.out 3).trans rfl
       have hcz45_4 : w24.cell? ⟨gb162, 4, none⟩ = some (.bool t146) := (blk_cell BK162.out 4).trans rfl
       have hcz45_5 : w24.cell? ⟨gb162, 5, none⟩ = some (.bool t147) := (blk_cell BK162.out 5).trans rfl
       have hcz45_6 : w24.cell? ⟨gb162, 6, none⟩ = some (.int .i64 t148) := (blk_cell BK162.out 6).trans rfl
       have hcz45_7 : w24.cell? ⟨gb162, 7, none⟩ = some (.int .i64 t149) := (blk_cell BK162.out 7).trans rfl
       have hcz45_8 : w24.cell? ⟨gb162, 8, none⟩ = some (.int .i64 t150) := (blk_cell BK162.out 8).trans rfl
       have hcz45_9 : w24.cell? ⟨gb162, 9, none⟩ = some (.int .i64 t151) := (blk_cell BK162.out 9).trans rfl
       have hfz45_0 := blk_frozen BK162.out 0
       have hfz45_1 := blk_frozen BK162.out 1
       have hfz45_2 := blk_frozen BK162.out 2
       have hfz45_3 := blk_frozen BK162.out 3
       have hfz45_4 := blk_frozen BK162.out 4
       have hfz45_5 := blk_frozen BK162.out 5
       have hfz45_6 := blk_frozen BK162.out 6
       have hfz45_7 := blk_frozen BK162.out 7
       have hfz45_8 := blk_frozen BK162.out 8
       have hfz45_9 := blk_frozen BK162.out 9
       have hcz46_0 : w24.cell? ⟨gb163, 0, none⟩ = some (.bool false) := (blk_cell BK163.out 0).trans rfl
       have hcz46_1 : w24.cell? ⟨gb163, 1, none⟩ = some (.bool t153) := (blk_cell BK163.out 1).trans rfl
       have hcz46_2 : w24.cell? ⟨gb163, 2, none⟩ = some (.bool true) := (blk_cell BK163.out 2).trans rfl
       have hcz46_3 : w24.cell? ⟨gb163, 3, none⟩ = some (.bool t155) := (blk_cell BK163.out 3).trans rfl
       have hcz46_4 : w24.cell? ⟨gb163, 4, none⟩ = some (.bool t156) := (blk_cell BK163.out 4).trans rfl
       have hcz46_5 : w24.cell? ⟨gb163, 5, none⟩ = some (.bool t157) := (blk_cell BK163.out 5).trans rfl
       have hcz46_6 : w24.cell? ⟨gb163, 6, none⟩ = some (.int .i64 t158) := (blk_cell BK163.out 6).trans rfl
       have hcz46_7 : w24.cell? ⟨gb163, 7, none⟩ = some (.int .i64 t159) := (blk_cell BK163.out 7).trans rfl
       have hcz46_8 : w24.cell? ⟨gb163, 8, none⟩ = some (.int .i64 t160) := (blk_cell BK163.out 8).trans rfl
       have hcz46_9 : w24.cell? ⟨gb163, 9, none⟩ = some (.int .i64 t161) := (blk_cell BK163.out 9).trans rfl
       have hfz46_0 := blk_frozen BK163.out 0
       have hfz46_1 := blk_frozen BK163.out 1
       have hfz46_2 := blk_frozen BK163.out 2
       have hfz46_3 := blk_frozen BK163.out 3
       have hfz46_4 := blk_frozen BK163.out 4
       have hfz46_5 := blk_frozen BK163.out 5
       have hfz46_6 := blk_frozen BK163.out 6
       have hfz46_7 := blk_frozen BK163.out 7
       have hfz46_8 := blk_frozen BK163.out 8
       have hfz46_9 := blk_frozen BK163.out 9
       go_wp2
       go_meet
       case rel => exact ⟨_, (true), (by first | rfl | (simp; done) | (simp [*]; done)), H', ⟨by first | omega | exact Nat.le_refl _⟩, ⟨by (with_reducible repeat (first | refine bN_ ?_ _ | refine bD_ ?_ | refine bA_ ?_ _)); exact BK141.out⟩, ⟨by (with_reducible repeat (first | refine bN_ ?_ _ | refine bD_ ?_ | refine bA_ ?_ _)); exact BK162.out⟩, ⟨by (with_reducible repeat (first | refine bN_ ?_ _ | refine bD_ ?_ | refine bA_ ?_ _)); exact BK163.out⟩, ⟨by repeat (first | (with_reducible first | exact HB.out | apply zA_ | apply zN_ | apply zD_ | refine below_set ?_ GE141.out | refine below_set ?_ GE162.out | refine below_set ?_ GE163.out) | exact HB.out)⟩⟩
      ·
       replace c40 := Bool.eq_false_iff.mpr c40
       subst c40
       rw [if_neg (show ¬ (false = true) by decide)] at H
       have H' := Aside0.mk H
       clear H
       have hnb47 := NB141_162.out
       have hnc47 := NB162_141.out
       have hnb48 := NB141_163.out
       have hnc48 := NB163_141.out
       have hcz49_0 : w24.cell? ⟨gb141, 0, none⟩ = some (.string a0_0) := (blk_cell BK141.out 0).trans rfl
       have hcz49_1 : w24.cell? ⟨gb141, 1, none⟩ = some (.int .i64 a0_1) := (blk_cell BK141.out 1).trans rfl
       have hcz49_2 : w24.cell? ⟨gb141, 2, none⟩ = some (.int .i64 a0_2) := (blk_cell BK141.out 2).trans rfl
       have hcz49_3 : w24.cell? ⟨gb141, 3, none⟩ = some (.int .i64 a0_3) := (blk_cell BK141.out 3).trans rfl
       have hcz49_4 : w24.cell? ⟨gb141, 4, none⟩ = some (.bool a0_4) := (blk_cell BK141.out 4).trans rfl
       have hcz49_5 : w24.cell? ⟨gb141, 5, none⟩ = some (.bool true) := (blk_cell BK141.out 5).trans rfl
       have hcz49_6 : w24.cell? ⟨gb141, 6, none⟩ = some (.slice A0_6 l0_6.length c0_6) := (blk_cell BK141.out 6).trans rfl
       have hfz49_0 := blk_frozen BK141.out 0
       have hfz49_1 := blk_frozen BK141.out 1
       have hfz49_2 := blk_frozen BK141.out 2
       have hfz49_3 := blk_frozen BK141.out 3
       have hfz49_4 := blk_frozen BK141.out 4
       have hfz49_5 := blk_frozen BK141.out 5
       have hfz49_6 := blk_frozen BK141.out 6
       have hnb50 := NB162_163.out
       have hnc50 := NB163_162.out
       have hcz51_0 : w24.cell? ⟨gb162, 0, none⟩ = some (.bool false) := (blk_cell BK162.out 0).trans rfl
       have hcz51_1 : w24.cell? ⟨gb162, 1, none⟩ = some (.bool t143) := (blk_cell BK162.out 1).trans rfl
       have hcz51_2 : w24.cell? ⟨gb162, 2, none⟩ = some (.bool t144) := (blk_cell BK162.out 2).trans rfl
       have hcz51_3 : w24.cell? ⟨gb162, 3, none⟩ = some (.bool t145) := (blk_cell BK162.out 3).trans rfl
       have hcz51_4 : w24.cell? ⟨gb162, 4, none⟩ = some (.bool t146) := (blk_cell BK162.out 4).trans rfl
       have hcz51_5 : w24.cell? ⟨gb162, 5, none⟩ = some (.bool t147) := (blk_cell BK162.out 5).trans rfl
       have hcz51_6 : w24.cell? ⟨gb162, 6, none⟩ = some (.int .i64 t148) := (blk_cell BK162.out 6).trans rfl
       have hcz51_7 : w24.cell? ⟨gb162, 7, none⟩ = some (.int .i64 t149) := (blk_cell BK162.out 7).trans rfl
       have hcz51_8 : w24.cell? ⟨gb162, 8, none⟩ = some (.int .i64 t150) := (blk_cell BK162.out 8).trans rfl
       have hcz51_9 : w24.cell? ⟨gb162, 9, none⟩ = some (.int .i64 t151) := (blk_cell BK162.out 9).trans rfl
       have hfz51_0 := blk_frozen BK162.out 0
       have hfz51_1 := blk_frozen BK162.out 1
       have hfz51_2 := blk_frozen BK162.out 2
       have hfz51_3 := blk_frozen BK162.out 3
       have hfz51_4 := blk_frozen BK162.out 4
       have hfz51_5 := blk_frozen BK162.out 5
       have hfz51_6 := blk_frozen BK162.out 6
       have hfz51_7 := blk_frozen BK162.out 7
       have hfz51_8 := blk_frozen BK162.out 8
       have hfz51_9 := blk_frozen BK162.out 9
       have hcz52_0 : w24.cell? ⟨gb163, 0, none⟩ = some (.bool false) := (blk_cell BK163.out 0).trans rfl
       have hcz52_1 : w24.cell? ⟨gb163, 1, none⟩ = some (.bool t153) := (blk_cell BK163.out 1).trans rfl
       have hcz52_2 : w24.cell? ⟨gb163, 2, none⟩ = some (.bool false) := (blk_cell BK163.out 2).trans rfl
       have hcz52_3 : w24.cell? ⟨gb163, 3, none⟩ = some (.bool t155) := (blk_cell BK163.out 3).trans rfl
       have hcz52_4 : w24.cell? ⟨gb163, 4, none⟩ = some (.bool t156) := (blk_cell BK163.out 4).trans rfl
       have hcz52_5 : w24.cell? ⟨gb163, 5, none⟩ = some (.bool t157) := (blk_cell BK163.out 5).trans rfl
       have hcz52_6 : w24.cell? ⟨gb163, 6, none⟩ = some (.int .i64 t158) := (blk_cell BK163.out 6).trans rfl
       have hcz52_7 : w24.cell? ⟨gb163, 7, none⟩ = some (.int .i64 t159) := (blk_cell BK163.out 7).trans rfl
       have hcz52_8 : w24.cell? ⟨gb163, 8, none⟩ = some (.int .i64 t160) := (blk_cell BK163.out 8).trans rfl
       have hcz52_9 : w24.cell? ⟨gb163, 9, none⟩ = some (.int .i64 t161) := (blk_cell BK163.out 9).trans rfl
       have hfz52_0 := blk_frozen BK163.out 0
       have hfz52_1 := blk_frozen BK163.out 1
       have hfz52_2 := blk_frozen BK163.out 2
       have hfz52_3 := blk_frozen BK163.out 3
       have hfz52_4 := blk_frozen BK163.out 4
       have hfz52_5 := blk_frozen BK163.out 5
       have hfz52_6 := blk_frozen BK163.out 6
       have hfz52_7 := blk_frozen BK163.out 7
       have hfz52_8 := blk_frozen BK163.out 8
       have hfz52_9 := blk_frozen BK163.out 9
       go_wp2
       go_meet
       case rel => exact ⟨_, (t169), (by first | rfl | (simp; done) | (simp [*]; done)), H', ⟨by first | omega | exact Nat.le_refl _⟩, ⟨by (with_reducible repeat (first | refine bN_ ?_ _ | refine bD_ ?_ | refine bA_ ?_ _)); exact BK141.out⟩, ⟨by (with_reducible repeat (first | refine bN_ ?_ _ | refine bD_ ?_ | refine bA_ ?_ _)); exact BK162.out⟩, ⟨by (with_reducible repeat (first | refine bN_ ?_ _ | refine bD_ ?_ | refine bA_ ?_ _)); exact BK163.out⟩, ⟨by repeat (first | (with_reducible first | exact HB.out | apply zA_ | apply zN_ | apply zD_ | refine below_set ?_ GE141.out | refine below_set ?_ GE162.out | refine below_set ?_ GE163.out) | exact HB.out)⟩⟩
   ·
    rw [if_neg c26] at H
    have c26b0 : (a1.toList == ([71, 69, 84] : List UInt8)) = false := beq_eq_false_iff_ne.mpr c26
    have c26b1 : (a1.toList != ([71, 69, 84] : List UInt8)) = true := bne_iff_ne.mpr c26
    (first | rw [c26b0] | (simp only [i64_w, i32_w]; rw [c26b0]) | skip)
    have H' := Aside0.mk H
    clear H
    have hnb53 := NB141_162.out
    have hnc53 := NB162_141.out
    have hnb54 := NB141_163.out
    have hnc54 := NB163_141.out
    have hcz55_0 : w24.cell? ⟨gb141, 0, none⟩ = some (.string a0_0) := (blk_cell BK141.out 0).trans rfl
    have hcz55_1 : w24.cell? ⟨gb141, 1, none⟩ = some (.int .i64 a0_1) := (blk_cell BK141.out 1).trans rfl
    have hcz55_2 : w24.cell? ⟨gb141, 2, none⟩ = some (.int .i64 a0_2) := (blk_cell BK141.out 2).trans rfl
    have hcz55_3 : w24.cell? ⟨gb141, 3, none⟩ = some (.int .i64 a0_3) := (blk_cell BK141.out 3).trans rfl
    have hcz55_4 : w24.cell? ⟨gb141, 4, none⟩ = some (.bool a0_4) := (blk_cell BK141.out 4).trans rfl
    have hcz55_5 : w24.cell? ⟨gb141, 5, none⟩ = some (.bool true) := (blk_cell BK141.out 5).trans rfl
    have hcz55_6 : w24.cell? ⟨gb141, 6, none⟩ = some (.slice A0_6 l0_6.length c0_6) := (blk_cell BK141.out 6).trans rfl
    have hfz55_0 := blk_frozen BK141.out 0
    have hfz55_1 := blk_frozen BK141.out 1
    have hfz55_2 := blk_frozen BK141.out 2
    have hfz55_3 := blk_frozen BK141.out 3
    have hfz55_4 := blk_frozen BK141.out 4
    have hfz55_5 := blk_frozen BK141.out 5
    have hfz55_6 := blk_frozen BK141.out 6
    go_wp2
    go_meet
    case rel => exact ⟨_, (true), (by first | rfl | (simp; done) | (simp [*]; done)), H', ⟨by first | omega | exact Nat.le_refl _⟩, ⟨by (with_reducible repeat (first | refine bN_ ?_ _ | refine bD_ ?_ | refine bA_ ?_ _)); exact BK141.out⟩, ⟨by (with_reducible repeat (first | refine bN_ ?_ _ | refine bD_ ?_ | refine bA_ ?_ _)); exact BK162.out⟩, ⟨by (with_reducible repeat (first | refine bN_ ?_ _ | refine bD_ ?_ | refine bA_ ?_ _)); exact BK163.out⟩, ⟨by repeat (first | (with_reducible first | exact HB.out | apply zA_ | apply zN_ | apply zD_ | refine below_set ?_ GE141.out | refine below_set ?_ GE162.out | refine below_set ?_ GE163.out) | exact HB.out)⟩⟩
  ·
   replace c25 := Bool.eq_false_iff.mpr c25
   subst c25
   rw [if_neg (show ¬ (false = true) by decide)] at H
   have H' := Aside0.mk H
   clear H
   have hnb56 := NB141_162.out
   have hnc56 := NB162_141.out
   have hnb57 := NB141_163.out
   have hnc57 := NB163_141.out
   have hcz58_0 : w24.cell? ⟨gb141, 0, none⟩ = some (.string a0_0) := (blk_cell BK141.out 0).trans rfl
   have hcz58_1 : w24.cell? ⟨gb141, 1, none⟩ = some (.int .i64 a0_1) := (blk_cell BK141.out 1).trans rfl
   have hcz58_2 : w24.cell? ⟨gb141, 2, none⟩ = some (.int .i64 a0_2) := (blk_cell BK141.out 2).trans rfl
   have hcz58_3 : w24.cell? ⟨gb141, 3, none⟩ = some (.int .i64 a0_3) := (blk_cell BK141.out 3).trans rfl
   have hcz58_4 : w24.cell? ⟨gb141, 4, none⟩ = some (.bool a0_4) := (blk_cell BK141.out 4).trans rfl
   have hcz58_5 : w24.cell? ⟨gb141, 5, none⟩ = some (.bool false) := (blk_cell BK141.out 5).trans rfl
   have hcz58_6 : w24.cell? ⟨gb141, 6, none⟩ = some (.slice A0_6 l0_6.length c0_6) := (blk_cell BK141.out 6).trans rfl
   have hfz58_0 := blk_frozen BK141.out 0
   have hfz58_1 := blk_frozen BK141.out 1
   have hfz58_2 := blk_frozen BK141.out 2
   have hfz58_3 := blk_frozen BK141.out 3
   have hfz58_4 := blk_frozen BK141.out 4
   have hfz58_5 := blk_frozen BK141.out 5
   have hfz58_6 := blk_frozen BK141.out 6
   go_wp2
   go_meet
   case rel => exact ⟨_, (true), (by first | rfl | (simp; done) | (simp [*]; done)), H', ⟨by first | omega | exact Nat.le_refl _⟩, ⟨by (with_reducible repeat (first | refine bN_ ?_ _ | refine bD_ ?_ | refine bA_ ?_ _)); exact BK141.out⟩, ⟨by (with_reducible repeat (first | refine bN_ ?_ _ | refine bD_ ?_ | refine bA_ ?_ _)); exact BK162.out⟩, ⟨by (with_reducible repeat (first | refine bN_ ?_ _ | refine bD_ ?_ | refine bA_ ?_ _)); exact BK163.out⟩, ⟨by repeat (first | (with_reducible first | exact HB.out | apply zA_ | apply zN_ | apply zD_ | refine below_set ?_ GE141.out | refine below_set ?_ GE162.out | refine below_set ?_ GE163.out) | exact HB.out)⟩⟩
 case rest =>
  clear HC11
  (try clear c2); (try clear c4); (try clear c25); (try clear c26); (try clear c26b0); (try clear c26b1); (try clear c27); (try clear c33); (try clear c40); (try clear hcz19_0); (try clear hcz19_1); (try clear hcz19_2); (try clear hcz19_3); (try clear hcz19_4); (try clear hcz19_5); (try clear hcz19_6); (try clear hcz19_7); (try clear hcz19_8); (try clear hcz19_9); (try clear hcz21_0); (try clear hcz21_1); (try clear hcz21_2); (try clear hcz21_3); (try clear hcz21_4); (try clear hcz21_5); (try clear hcz21_6); (try clear hcz21_7); (try clear hcz21_8); (try clear hcz21_9); (try clear hcz30_0); (try clear hcz30_1); (try clear hcz30_2); (try clear hcz30_3); (try clear hcz30_4); (try clear hcz30_5); (try clear hcz30_6); (try clear hcz32_0); (try clear hcz32_1); (try clear hcz32_2); (try clear hcz32_3); (try clear hcz32_4); (try clear hcz32_5); (try clear hcz32_6); (try clear hcz32_7); (try clear hcz32_8); (try clear hcz32_9); (try clear hcz36_0); (try clear hcz36_1); (try clear hcz36_2); (try clear hcz36_3); (try clear hcz36_4); (try clear hcz36_5); (try clear hcz36_6); (try clear hcz38_0); (try clear hcz38_1); (try clear hcz38_2); (try clear hcz38_3); (try clear hcz38_4); (try clear hcz38_5); (try clear hcz38_6); (try clear hcz38_7); (try clear hcz38_8); (try clear hcz38_9); (try clear hcz39_0); (try clear hcz39_1); (try clear hcz39_2); (try clear hcz39_3); (try clear hcz39_4); (try clear hcz39_5); (try clear hcz39_6); (try clear hcz39_7); (try clear hcz39_8); (try clear hcz39_9); (try clear hcz43_0); (try clear hcz43_1); (try clear hcz43_2); (try clear hcz43_3); (try clear hcz43_4); (try clear hcz43_5); (try clear hcz43_6); (try clear hcz45_0); (try clear hcz45_1); (try clear hcz45_2); (try clear hcz45_3); (try clear hcz45_4); (try clear hcz45_5); (try clear hcz45_6); (try clear hcz45_7); (try clear hcz45_8); (try clear hcz45_9); (try clear hcz46_0); (try clear hcz46_1); (try clear hcz46_2); (try clear hcz46_3); (try clear hcz46_4); (try clear hcz46_5); (try clear hcz46_6); (try clear hcz46_7); (try clear hcz46_8); (try clear hcz46_9); (try clear hcz49_0); (try clear hcz49_1); (try clear hcz49_2); (try clear hcz49_3); (try clear hcz49_4); (try clear hcz49_5); (try clear hcz49_6); (try clear hcz51_0); (try clear hcz51_1); (try clear hcz51_2); (try clear hcz51_3); (try clear hcz51_4); (try clear hcz51_5); (try clear hcz51_6); (try clear hcz51_7); (try clear hcz51_8); (try clear hcz51_9); (try clear hcz52_0); (try clear hcz52_1); (try clear hcz52_2); (try clear hcz52_3); (try clear hcz52_4); (try clear hcz52_5); (try clear hcz52_6); (try clear hcz52_7); (try clear hcz52_8); (try clear hcz52_9); (try clear hcz55_0); (try clear hcz55_1); (try clear hcz55_2); (try clear hcz55_3); (try clear hcz55_4); (try clear hcz55_5); (try clear hcz55_6); (try clear hcz58_0); (try clear hcz58_1); (try clear hcz58_2); (try clear hcz58_3); (try clear hcz58_4); (try clear hcz58_5); (try clear hcz58_6); (try clear hfz19_0); (try clear hfz19_1); (try clear hfz19_2); (try clear hfz19_3); (try clear hfz19_4); (try clear hfz19_5); (try clear hfz19_6); (try clear hfz19_7); (try clear hfz19_8); (try clear hfz19_9); (try clear hfz21_0); (try clear hfz21_1); (try clear hfz21_2); (try clear hfz21_3); (try clear hfz21_4); (try clear hfz21_5); (try clear hfz21_6); (try clear hfz21_7); (try clear hfz21_8); (try clear hfz21_9); (try clear hfz30_0); (try clear hfz30_1); (try clear hfz30_2); (try clear hfz30_3); (try clear hfz30_4); (try clear hfz30_5); (try clear hfz30_6); (try clear hfz32_0); (try clear hfz32_1); (try clear hfz32_2); (try clear hfz32_3); (try clear hfz32_4); (try clear hfz32_5); (try clear hfz32_6); (try clear hfz32_7); (try clear hfz32_8); (try clear hfz32_9); (try clear hfz36_0); (try clear hfz36_1); (try clear hfz36_2); (try clear hfz36_3); (try clear hfz36_4); (try clear hfz36_5); (try clear hfz36_6); (try clear hfz38_0); (try clear hfz38_1); (try clear hfz38_2); (try clear hfz38_3); (try clear hfz38_4); (try clear hfz38_5); (try clear hfz38_6); (try clear hfz38_7); (try clear hfz38_8); (try clear hfz38_9); (try clear hfz39_0); (try clear hfz39_1); (try clear hfz39_2); (try clear hfz39_3); (try clear hfz39_4); (try clear hfz39_5); (try clear hfz39_6); (try clear hfz39_7); (try clear hfz39_8); (try clear hfz39_9); (try clear hfz43_0); (try clear hfz43_1); (try clear hfz43_2); (try clear hfz43_3); (try clear hfz43_4); (try clear hfz43_5); (try clear hfz43_6); (try clear hfz45_0); (try clear hfz45_1); (try clear hfz45_2); (try clear hfz45_3); (try clear hfz45_4); (try clear hfz45_5); (try clear hfz45_6); (try clear hfz45_7); (try clear hfz45_8); (try clear hfz45_9); (try clear hfz46_0); (try clear hfz46_1); (try clear hfz46_2); (try clear hfz46_3); (try clear hfz46_4); (try clear hfz46_5); (try clear hfz46_6); (try clear hfz46_7); (try clear hfz46_8); (try clear hfz46_9); (try clear hfz49_0); (try clear hfz49_1); (try clear hfz49_2); (try clear hfz49_3); (try clear hfz49_4); (try clear hfz49_5); (try clear hfz49_6); (try clear hfz51_0); (try clear hfz51_1); (try clear hfz51_2); (try clear hfz51_3); (try clear hfz51_4); (try clear hfz51_5); (try clear hfz51_6); (try clear hfz51_7); (try clear hfz51_8); (try clear hfz51_9); (try clear hfz52_0); (try clear hfz52_1); (try clear hfz52_2); (try clear hfz52_3); (try clear hfz52_4); (try clear hfz52_5); (try clear hfz52_6); (try clear hfz52_7); (try clear hfz52_8); (try clear hfz52_9); (try clear hfz55_0); (try clear hfz55_1); (try clear hfz55_2); (try clear hfz55_3); (try clear hfz55_4); (try clear hfz55_5); (try clear hfz55_6); (try clear hfz58_0); (try clear hfz58_1); (try clear hfz58_2); (try clear hfz58_3); (try clear hfz58_4); (try clear hfz58_5); (try clear hfz58_6)
  obtain ⟨kq, x38_10, rfl, HA, HJ10, BK141, BK162, BK163, HB⟩ := hcut
  cases kq with
  | zero => exact absurd HA.out (by simp [fresh_Kept.j0])
  | succ kj10 =>
   have H := HA.out
   clear HA
   simp only [fresh_Kept.j0] at H
   by_cases c59 : x38_10 = true
   ·
    subst c59
    rw [if_pos rfl] at H
    obtain rfl := Option.some.inj H
    go_wp2
    go_ret
    exact ⟨by first | rfl | (generalize ByteArray.toList _ = l_; cases l_ <;> rfl) | (simp [errW_none, errW_some] <;> rfl) | (simp [*, errW_none, errW_some] <;> rfl), by repeat (first | (with_reducible first | exact HB.out | apply zA_ | apply zN_ | apply zD_ | refine below_set ?_ GE141.out | refine below_set ?_ GE162.out | refine below_set ?_ GE163.out) | exact HB.out)⟩
   ·
    replace c59 := Bool.eq_false_iff.mpr c59
    subst c59
    rw [if_neg (show ¬ (false = true) by decide)] at H
    have HC60 := Aside0.mk H
    clear H
    go_upto_region 7 with (fail)
    go_cut [61] (fun v61 wc => ∃ (kq : Nat) (x61_59 : Bool), v61 = .bool x61_59 ∧ Aside0 (fresh_Kept.j1 kq a3 t167 x61_59 t152 t153 t154 t155 t156 t157 t158 t159 t160 t161 = some r) ∧ Aside0 (kq ≤ kj10) ∧ Aside0 (wc.heap[gb141]? = some (.cells #[.string a0_0, .int .i64 a0_1, .int .i64 a0_2, .int .i64 a0_3, .bool a0_4, .bool a0_5, (.slice A0_6 l0_6.length c0_6)] 24 (0, 0))) ∧ Aside0 (wc.heap[gb162]? = some (.cells #[.bool t142, .bool t143, .bool t144, .bool t145, .bool t146, .bool t147, .int .i64 t148, .int .i64 t149, .int .i64 t150, .int .i64 t151] 57 (0, 0))) ∧ Aside0 (wc.heap[gb163]? = some (.cells #[.bool t152, .bool t153, .bool t154, .bool t155, .bool t156, .bool t157, .int .i64 t158, .int .i64 t159, .int .i64 t160, .int .i64 t161] 57 (0, 0))) ∧ Aside0 (Below w.heap.size w wc))
    case first =>
     have H := HC60.out
     clear HC60
     by_cases c61 : t165 = true
     ·
      subst c61
      rw [if_pos rfl] at H
      by_cases c62 : t155 = true
      ·
       subst c62
       rw [if_pos rfl] at H
       have H' := Aside0.mk H
       clear H
       have hnb63 := NB163_141.out
       have hnc63 := NB141_163.out
       have hnb64 := NB163_162.out
       have hnc64 := NB162_163.out
       have hcz65_0 : wc.cell? ⟨gb163, 0, none⟩ = some (.bool t152) := (blk_cell BK163.out 0).trans rfl
       have hcz65_1 : wc.cell? ⟨gb163, 1, none⟩ = some (.bool t153) := (blk_cell BK163.out 1).trans rfl
       have hcz65_2 : wc.cell? ⟨gb163, 2, none⟩ = some (.bool t154) := (blk_cell BK163.out 2).trans rfl
       have hcz65_3 : wc.cell? ⟨gb163, 3, none⟩ = some (.bool true) := (blk_cell BK163.out 3).trans rfl
       have hcz65_4 : wc.cell? ⟨gb163, 4, none⟩ = some (.bool t156) := (blk_cell BK163.out 4).trans rfl
       have hcz65_5 : wc.cell? ⟨gb163, 5, none⟩ = some (.bool t157) := (blk_cell BK163.out 5).trans rfl
       have hcz65_6 : wc.cell? ⟨gb163, 6, none⟩ = some (.int .i64 t158) := (blk_cell BK163.out 6).trans rfl
       have hcz65_7 : wc.cell? ⟨gb163, 7, none⟩ = some (.int .i64 t159) := (blk_cell BK163.out 7).trans rfl
       have hcz65_8 : wc.cell? ⟨gb163, 8, none⟩ = some (.int .i64 t160) := (blk_cell BK163.out 8).trans rfl
       have hcz65_9 : wc.cell? ⟨gb163, 9, none⟩ = some (.int .i64 t161) := (blk_cell BK163.out 9).trans rfl
       have hfz65_0 := blk_frozen BK163.out 0
       have hfz65_1 := blk_frozen BK163.out 1
       have hfz65_2 := blk_frozen BK163.out 2
       have hfz65_3 := blk_frozen BK163.out 3
       have hfz65_4 := blk_frozen BK163.out 4
       have hfz65_5 := blk_frozen BK163.out 5
       have hfz65_6 := blk_frozen BK163.out 6
       have hfz65_7 := blk_frozen BK163.out 7
       have hfz65_8 := blk_frozen BK163.out 8
       have hfz65_9 := blk_frozen BK163.out 9
       go_wp2
       go_meet
       case rel => exact ⟨_, (false), (by first | rfl | (simp; done) | (simp [*]; done)), H', ⟨by have := HJ10.out; first | omega | exact Nat.le_refl _⟩, ⟨by (with_reducible repeat (first | refine bN_ ?_ _ | refine bD_ ?_ | refine bA_ ?_ _)); exact BK141.out⟩, ⟨by (with_reducible repeat (first | refine bN_ ?_ _ | refine bD_ ?_ | refine bA_ ?_ _)); exact BK162.out⟩, ⟨by (with_reducible repeat (first | refine bN_ ?_ _ | refine bD_ ?_ | refine bA_ ?_ _)); exact BK163.out⟩, ⟨by repeat (first | (with_reducible first | exact HB.out | apply zA_ | apply zN_ | apply zD_ | refine below_set ?_ GE141.out | refine below_set ?_ GE162.out | refine below_set ?_ GE163.out) | exact HB.out)⟩⟩
      ·
       replace c62 := Bool.eq_false_iff.mpr c62
       subst c62
       rw [if_neg (show ¬ (false = true) by decide)] at H
       by_cases c66 : t156 = true
       ·
        subst c66
        rw [if_pos rfl] at H
        have H' := Aside0.mk H
        clear H
        have hnb67 := NB163_141.out
        have hnc67 := NB141_163.out
        have hnb68 := NB163_162.out
        have hnc68 := NB162_163.out
        have hcz69_0 : wc.cell? ⟨gb163, 0, none⟩ = some (.bool t152) := (blk_cell BK163.out 0).trans rfl
        have hcz69_1 : wc.cell? ⟨gb163, 1, none⟩ = some (.bool t153) := (blk_cell BK163.out 1).trans rfl
        have hcz69_2 : wc.cell? ⟨gb163, 2, none⟩ = some (.bool t154) := (blk_cell BK163.out 2).trans rfl
        have hcz69_3 : wc.cell? ⟨gb163, 3, none⟩ = some (.bool false) := (blk_cell BK163.out 3).trans rfl
        have hcz69_4 : wc.cell? ⟨gb163, 4, none⟩ = some (.bool true) := (blk_cell BK163.out 4).trans rfl
        have hcz69_5 : wc.cell? ⟨gb163, 5, none⟩ = some (.bool t157) := (blk_cell BK163.out 5).trans rfl
        have hcz69_6 : wc.cell? ⟨gb163, 6, none⟩ = some (.int .i64 t158) := (blk_cell BK163.out 6).trans rfl
        have hcz69_7 : wc.cell? ⟨gb163, 7, none⟩ = some (.int .i64 t159) := (blk_cell BK163.out 7).trans rfl
        have hcz69_8 : wc.cell? ⟨gb163, 8, none⟩ = some (.int .i64 t160) := (blk_cell BK163.out 8).trans rfl
        have hcz69_9 : wc.cell? ⟨gb163, 9, none⟩ = some (.int .i64 t161) := (blk_cell BK163.out 9).trans rfl
        have hfz69_0 := blk_frozen BK163.out 0
        have hfz69_1 := blk_frozen BK163.out 1
        have hfz69_2 := blk_frozen BK163.out 2
        have hfz69_3 := blk_frozen BK163.out 3
        have hfz69_4 := blk_frozen BK163.out 4
        have hfz69_5 := blk_frozen BK163.out 5
        have hfz69_6 := blk_frozen BK163.out 6
        have hfz69_7 := blk_frozen BK163.out 7
        have hfz69_8 := blk_frozen BK163.out 8
        have hfz69_9 := blk_frozen BK163.out 9
        go_wp2
        go_meet
        case rel => exact ⟨_, (false), (by first | rfl | (simp; done) | (simp [*]; done)), H', ⟨by have := HJ10.out; first | omega | exact Nat.le_refl _⟩, ⟨by (with_reducible repeat (first | refine bN_ ?_ _ | refine bD_ ?_ | refine bA_ ?_ _)); exact BK141.out⟩, ⟨by (with_reducible repeat (first | refine bN_ ?_ _ | refine bD_ ?_ | refine bA_ ?_ _)); exact BK162.out⟩, ⟨by (with_reducible repeat (first | refine bN_ ?_ _ | refine bD_ ?_ | refine bA_ ?_ _)); exact BK163.out⟩, ⟨by repeat (first | (with_reducible first | exact HB.out | apply zA_ | apply zN_ | apply zD_ | refine below_set ?_ GE141.out | refine below_set ?_ GE162.out | refine below_set ?_ GE163.out) | exact HB.out)⟩⟩
       ·
        replace c66 := Bool.eq_false_iff.mpr c66
        subst c66
        rw [if_neg (show ¬ (false = true) by decide)] at H
        have H' := Aside0.mk H
        clear H
        have hnb70 := NB163_141.out
        have hnc70 := NB141_163.out
        have hnb71 := NB163_162.out
        have hnc71 := NB162_163.out
        have hcz72_0 : wc.cell? ⟨gb163, 0, none⟩ = some (.bool t152) := (blk_cell BK163.out 0).trans rfl
        have hcz72_1 : wc.cell? ⟨gb163, 1, none⟩ = some (.bool t153) := (blk_cell BK163.out 1).trans rfl
        have hcz72_2 : wc.cell? ⟨gb163, 2, none⟩ = some (.bool t154) := (blk_cell BK163.out 2).trans rfl
        have hcz72_3 : wc.cell? ⟨gb163, 3, none⟩ = some (.bool false) := (blk_cell BK163.out 3).trans rfl
        have hcz72_4 : wc.cell? ⟨gb163, 4, none⟩ = some (.bool false) := (blk_cell BK163.out 4).trans rfl
        have hcz72_5 : wc.cell? ⟨gb163, 5, none⟩ = some (.bool t157) := (blk_cell BK163.out 5).trans rfl
        have hcz72_6 : wc.cell? ⟨gb163, 6, none⟩ = some (.int .i64 t158) := (blk_cell BK163.out 6).trans rfl
        have hcz72_7 : wc.cell? ⟨gb163, 7, none⟩ = some (.int .i64 t159) := (blk_cell BK163.out 7).trans rfl
        have hcz72_8 : wc.cell? ⟨gb163, 8, none⟩ = some (.int .i64 t160) := (blk_cell BK163.out 8).trans rfl
        have hcz72_9 : wc.cell? ⟨gb163, 9, none⟩ = some (.int .i64 t161) := (blk_cell BK163.out 9).trans rfl
        have hfz72_0 := blk_frozen BK163.out 0
        have hfz72_1 := blk_frozen BK163.out 1
        have hfz72_2 := blk_frozen BK163.out 2
        have hfz72_3 := blk_frozen BK163.out 3
        have hfz72_4 := blk_frozen BK163.out 4
        have hfz72_5 := blk_frozen BK163.out 5
        have hfz72_6 := blk_frozen BK163.out 6
        have hfz72_7 := blk_frozen BK163.out 7
        have hfz72_8 := blk_frozen BK163.out 8
        have hfz72_9 := blk_frozen BK163.out 9
        go_wp2
        go_meet
        case rel => exact ⟨_, (decide (t159 < 0)), (by first | rfl | (simp; done) | (simp [*]; done)), H', ⟨by have := HJ10.out; first | omega | exact Nat.le_refl _⟩, ⟨by (with_reducible repeat (first | refine bN_ ?_ _ | refine bD_ ?_ | refine bA_ ?_ _)); exact BK141.out⟩, ⟨by (with_reducible repeat (first | refine bN_ ?_ _ | refine bD_ ?_ | refine bA_ ?_ _)); exact BK162.out⟩, ⟨by (with_reducible repeat (first | refine bN_ ?_ _ | refine bD_ ?_ | refine bA_ ?_ _)); exact BK163.out⟩, ⟨by repeat (first | (with_reducible first | exact HB.out | apply zA_ | apply zN_ | apply zD_ | refine below_set ?_ GE141.out | refine below_set ?_ GE162.out | refine below_set ?_ GE163.out) | exact HB.out)⟩⟩
     ·
      replace c61 := Bool.eq_false_iff.mpr c61
      subst c61
      rw [if_neg (show ¬ (false = true) by decide)] at H
      have H' := Aside0.mk H
      clear H
      go_wp2
      go_meet
      case rel => exact ⟨_, (false), (by first | rfl | (simp; done) | (simp [*]; done)), H', ⟨by have := HJ10.out; first | omega | exact Nat.le_refl _⟩, ⟨by (with_reducible repeat (first | refine bN_ ?_ _ | refine bD_ ?_ | refine bA_ ?_ _)); exact BK141.out⟩, ⟨by (with_reducible repeat (first | refine bN_ ?_ _ | refine bD_ ?_ | refine bA_ ?_ _)); exact BK162.out⟩, ⟨by (with_reducible repeat (first | refine bN_ ?_ _ | refine bD_ ?_ | refine bA_ ?_ _)); exact BK163.out⟩, ⟨by repeat (first | (with_reducible first | exact HB.out | apply zA_ | apply zN_ | apply zD_ | refine below_set ?_ GE141.out | refine below_set ?_ GE162.out | refine below_set ?_ GE163.out) | exact HB.out)⟩⟩
    case rest =>
     clear HC60
     (try clear c2); (try clear c4); (try clear c25); (try clear c26); (try clear c26b0); (try clear c26b1); (try clear c27); (try clear c33); (try clear c40); (try clear c59); (try clear c61); (try clear c62); (try clear c66); (try clear hcz19_0); (try clear hcz19_1); (try clear hcz19_2); (try clear hcz19_3); (try clear hcz19_4); (try clear hcz19_5); (try clear hcz19_6); (try clear hcz19_7); (try clear hcz19_8); (try clear hcz19_9); (try clear hcz21_0); (try clear hcz21_1); (try clear hcz21_2); (try clear hcz21_3); (try clear hcz21_4); (try clear hcz21_5); (try clear hcz21_6); (try clear hcz21_7); (try clear hcz21_8); (try clear hcz21_9); (try clear hcz30_0); (try clear hcz30_1); (try clear hcz30_2); (try clear hcz30_3); (try clear hcz30_4); (try clear hcz30_5); (try clear hcz30_6); (try clear hcz32_0); (try clear hcz32_1); (try clear hcz32_2); (try clear hcz32_3); (try clear hcz32_4); (try clear hcz32_5); (try clear hcz32_6); (try clear hcz32_7); (try clear hcz32_8); (try clear hcz32_9); (try clear hcz36_0); (try clear hcz36_1); (try clear hcz36_2); (try clear hcz36_3); (try clear hcz36_4); (try clear hcz36_5); (try clear hcz36_6); (try clear hcz38_0); (try clear hcz38_1); (try clear hcz38_2); (try clear hcz38_3); (try clear hcz38_4); (try clear hcz38_5); (try clear hcz38_6); (try clear hcz38_7); (try clear hcz38_8); (try clear hcz38_9); (try clear hcz39_0); (try clear hcz39_1); (try clear hcz39_2); (try clear hcz39_3); (try clear hcz39_4); (try clear hcz39_5); (try clear hcz39_6); (try clear hcz39_7); (try clear hcz39_8); (try clear hcz39_9); (try clear hcz43_0); (try clear hcz43_1); (try clear hcz43_2); (try clear hcz43_3); (try clear hcz43_4); (try clear hcz43_5); (try clear hcz43_6); (try clear hcz45_0); (try clear hcz45_1); (try clear hcz45_2); (try clear hcz45_3); (try clear hcz45_4); (try clear hcz45_5); (try clear hcz45_6); (try clear hcz45_7); (try clear hcz45_8); (try clear hcz45_9); (try clear hcz46_0); (try clear hcz46_1); (try clear hcz46_2); (try clear hcz46_3); (try clear hcz46_4); (try clear hcz46_5); (try clear hcz46_6); (try clear hcz46_7); (try clear hcz46_8); (try clear hcz46_9); (try clear hcz49_0); (try clear hcz49_1); (try clear hcz49_2); (try clear hcz49_3); (try clear hcz49_4); (try clear hcz49_5); (try clear hcz49_6); (try clear hcz51_0); (try clear hcz51_1); (try clear hcz51_2); (try clear hcz51_3); (try clear hcz51_4); (try clear hcz51_5); (try clear hcz51_6); (try clear hcz51_7); (try clear hcz51_8); (try clear hcz51_9); (try clear hcz52_0); (try clear hcz52_1); (try clear hcz52_2); (try clear hcz52_3); (try clear hcz52_4); (try clear hcz52_5); (try clear hcz52_6); (try clear hcz52_7); (try clear hcz52_8); (try clear hcz52_9); (try clear hcz55_0); (try clear hcz55_1); (try clear hcz55_2); (try clear hcz55_3); (try clear hcz55_4); (try clear hcz55_5); (try clear hcz55_6); (try clear hcz58_0); (try clear hcz58_1); (try clear hcz58_2); (try clear hcz58_3); (try clear hcz58_4); (try clear hcz58_5); (try clear hcz58_6); (try clear hcz65_0); (try clear hcz65_1); (try clear hcz65_2); (try clear hcz65_3); (try clear hcz65_4); (try clear hcz65_5); (try clear hcz65_6); (try clear hcz65_7); (try clear hcz65_8); (try clear hcz65_9); (try clear hcz69_0); (try clear hcz69_1); (try clear hcz69_2); (try clear hcz69_3); (try clear hcz69_4); (try clear hcz69_5); (try clear hcz69_6); (try clear hcz69_7); (try clear hcz69_8); (try clear hcz69_9); (try clear hcz72_0); (try clear hcz72_1); (try clear hcz72_2); (try clear hcz72_3); (try clear hcz72_4); (try clear hcz72_5); (try clear hcz72_6); (try clear hcz72_7); (try clear hcz72_8); (try clear hcz72_9); (try clear hfz19_0); (try clear hfz19_1); (try clear hfz19_2); (try clear hfz19_3); (try clear hfz19_4); (try clear hfz19_5); (try clear hfz19_6); (try clear hfz19_7); (try clear hfz19_8); (try clear hfz19_9); (try clear hfz21_0); (try clear hfz21_1); (try clear hfz21_2); (try clear hfz21_3); (try clear hfz21_4); (try clear hfz21_5); (try clear hfz21_6); (try clear hfz21_7); (try clear hfz21_8); (try clear hfz21_9); (try clear hfz30_0); (try clear hfz30_1); (try clear hfz30_2); (try clear hfz30_3); (try clear hfz30_4); (try clear hfz30_5); (try clear hfz30_6); (try clear hfz32_0); (try clear hfz32_1); (try clear hfz32_2); (try clear hfz32_3); (try clear hfz32_4); (try clear hfz32_5); (try clear hfz32_6); (try clear hfz32_7); (try clear hfz32_8); (try clear hfz32_9); (try clear hfz36_0); (try clear hfz36_1); (try clear hfz36_2); (try clear hfz36_3); (try clear hfz36_4); (try clear hfz36_5); (try clear hfz36_6); (try clear hfz38_0); (try clear hfz38_1); (try clear hfz38_2); (try clear hfz38_3); (try clear hfz38_4); (try clear hfz38_5); (try clear hfz38_6); (try clear hfz38_7); (try clear hfz38_8); (try clear hfz38_9); (try clear hfz39_0); (try clear hfz39_1); (try clear hfz39_2); (try clear hfz39_3); (try clear hfz39_4); (try clear hfz39_5); (try clear hfz39_6); (try clear hfz39_7); (try clear hfz39_8); (try clear hfz39_9); (try clear hfz43_0); (try clear hfz43_1); (try clear hfz43_2); (try clear hfz43_3); (try clear hfz43_4); (try clear hfz43_5); (try clear hfz43_6); (try clear hfz45_0); (try clear hfz45_1); (try clear hfz45_2); (try clear hfz45_3); (try clear hfz45_4); (try clear hfz45_5); (try clear hfz45_6); (try clear hfz45_7); (try clear hfz45_8); (try clear hfz45_9); (try clear hfz46_0); (try clear hfz46_1); (try clear hfz46_2); (try clear hfz46_3); (try clear hfz46_4); (try clear hfz46_5); (try clear hfz46_6); (try clear hfz46_7); (try clear hfz46_8); (try clear hfz46_9); (try clear hfz49_0); (try clear hfz49_1); (try clear hfz49_2); (try clear hfz49_3); (try clear hfz49_4); (try clear hfz49_5); (try clear hfz49_6); (try clear hfz51_0); (try clear hfz51_1); (try clear hfz51_2); (try clear hfz51_3); (try clear hfz51_4); (try clear hfz51_5); (try clear hfz51_6); (try clear hfz51_7); (try clear hfz51_8); (try clear hfz51_9); (try clear hfz52_0); (try clear hfz52_1); (try clear hfz52_2); (try clear hfz52_3); (try clear hfz52_4); (try clear hfz52_5); (try clear hfz52_6); (try clear hfz52_7); (try clear hfz52_8); (try clear hfz52_9); (try clear hfz55_0); (try clear hfz55_1); (try clear hfz55_2); (try clear hfz55_3); (try clear hfz55_4); (try clear hfz55_5); (try clear hfz55_6); (try clear hfz58_0); (try clear hfz58_1); (try clear hfz58_2); (try clear hfz58_3); (try clear hfz58_4); (try clear hfz58_5); (try clear hfz58_6); (try clear hfz65_0); (try clear hfz65_1); (try clear hfz65_2); (try clear hfz65_3); (try clear hfz65_4); (try clear hfz65_5); (try clear hfz65_6); (try clear hfz65_7); (try clear hfz65_8); (try clear hfz65_9); (try clear hfz69_0); (try clear hfz69_1); (try clear hfz69_2); (try clear hfz69_3); (try clear hfz69_4); (try clear hfz69_5); (try clear hfz69_6); (try clear hfz69_7); (try clear hfz69_8); (try clear hfz69_9); (try clear hfz72_0); (try clear hfz72_1); (try clear hfz72_2); (try clear hfz72_3); (try clear hfz72_4); (try clear hfz72_5); (try clear hfz72_6); (try clear hfz72_7); (try clear hfz72_8); (try clear hfz72_9)
     obtain ⟨kq, x61_59, rfl, HA, HJ59, BK141, BK162, BK163, HB⟩ := hcut
     cases kq with
     | zero => exact absurd HA.out (by simp [fresh_Kept.j1])
     | succ kj59 =>
      have H := HA.out
      clear HA
      simp only [fresh_Kept.j1] at H
      by_cases c73 : x61_59 = true
      ·
       subst c73
       rw [if_pos rfl] at H
       obtain rfl := Option.some.inj H
       go_wp2
       go_ret
       exact ⟨by first | rfl | (generalize ByteArray.toList _ = l_; cases l_ <;> rfl) | (simp [errW_none, errW_some] <;> rfl) | (simp [*, errW_none, errW_some] <;> rfl), by repeat (first | (with_reducible first | exact HB.out | apply zA_ | apply zN_ | apply zD_ | refine below_set ?_ GE141.out | refine below_set ?_ GE162.out | refine below_set ?_ GE163.out) | exact HB.out)⟩
      ·
       replace c73 := Bool.eq_false_iff.mpr c73
       subst c73
       rw [if_neg (show ¬ (false = true) by decide)] at H
       replace H := Option.bind_eq_some_iff.mp H
       obtain ⟨t172, A740, H⟩ := H
       have A74 := Aside0.mk A740
       clear A740
       by_cases c75 : t172 = true
       ·
        subst c75
        rw [if_pos rfl] at H
        obtain rfl := Option.some.inj H
        go_wp2_with (first | ((with_reducible refine gate_callee (f := 30) rfl ?_); refine goesL_ (some 80) rfl rfl Tryz.func30 (by kernel_rfl) rfl #[.int .i64 a3] rfl (by (try simp only [mA_, mC_, mN_]); first | done | rfl | (simp only [List.length_drop, List.length_take]; rfl)) ?_; (with_reducible refine (fresh_usual.calls a3 true _ A74.out).mono ?_); rintro e w' ⟨rfl, ⟨nd, rfl⟩⟩; refine ⟨_, rfl, ?_⟩))
        go_ret
        exact ⟨by first | rfl | (generalize ByteArray.toList _ = l_; cases l_ <;> rfl) | (simp [errW_none, errW_some] <;> rfl) | (simp [*, errW_none, errW_some] <;> rfl), by repeat (first | (with_reducible first | exact HB.out | apply zA_ | apply zN_ | apply zD_ | refine below_set ?_ GE141.out | refine below_set ?_ GE162.out | refine below_set ?_ GE163.out) | exact HB.out)⟩
       ·
        replace c75 := Bool.eq_false_iff.mpr c75
        subst c75
        rw [if_neg (show ¬ (false = true) by decide)] at H
        by_cases c76 : a3 ≥ 200
        ·
         rw [if_pos c76] at H
         have c76b0 : decide (200 ≤ a3) = true := decide_eq_true c76
         clear c76
         by_cases c77 : a3 ≤ 599
         ·
          rw [if_pos c77] at H
          have c77b0 : decide (a3 ≤ 599) = true := decide_eq_true c77
          clear c77
          by_cases c78 : a3 = 206
          ·
           rw [if_pos c78] at H
           have c78b0 : (a3 == 206) = true := beq_iff_eq.mpr c78
           have c78b1 : (a3 != 206) = false := bne_eq_false_iff_eq.mpr c78
           clear c78
           obtain rfl := Option.some.inj H
           go_wp2_with (first | ((with_reducible refine gate_callee (f := 30) rfl ?_); refine goesL_ (some 80) rfl rfl Tryz.func30 (by kernel_rfl) rfl #[.int .i64 a3] rfl (by (try simp only [mA_, mC_, mN_]); first | done | rfl | (simp only [List.length_drop, List.length_take]; rfl)) ?_; (with_reducible refine (fresh_usual.calls a3 false _ A74.out).mono ?_); rintro e w' ⟨rfl, ⟨nd, rfl⟩⟩; refine ⟨_, rfl, ?_⟩))
           go_ret
           exact ⟨by first | rfl | (generalize ByteArray.toList _ = l_; cases l_ <;> rfl) | (simp [errW_none, errW_some] <;> rfl) | (simp [*, errW_none, errW_some] <;> rfl), by repeat (first | (with_reducible first | exact HB.out | apply zA_ | apply zN_ | apply zD_ | refine below_set ?_ GE141.out | refine below_set ?_ GE162.out | refine below_set ?_ GE163.out) | exact HB.out)⟩
          ·
           rw [if_neg c78] at H
           have c78b0 : (a3 == 206) = false := beq_eq_false_iff_ne.mpr c78
           have c78b1 : (a3 != 206) = true := bne_iff_ne.mpr c78
           by_cases c79 : a3 = 304
           ·
            rw [if_pos c79] at H
            have c79b0 : (a3 == 304) = true := beq_iff_eq.mpr c79
            have c79b1 : (a3 != 304) = false := bne_eq_false_iff_eq.mpr c79
            clear c79
            obtain rfl := Option.some.inj H
            go_wp2_with (first | ((with_reducible refine gate_callee (f := 30) rfl ?_); refine goesL_ (some 80) rfl rfl Tryz.func30 (by kernel_rfl) rfl #[.int .i64 a3] rfl (by (try simp only [mA_, mC_, mN_]); first | done | rfl | (simp only [List.length_drop, List.length_take]; rfl)) ?_; (with_reducible refine (fresh_usual.calls a3 false _ A74.out).mono ?_); rintro e w' ⟨rfl, ⟨nd, rfl⟩⟩; refine ⟨_, rfl, ?_⟩))
            go_ret
            exact ⟨by first | rfl | (generalize ByteArray.toList _ = l_; cases l_ <;> rfl) | (simp [errW_none, errW_some] <;> rfl) | (simp [*, errW_none, errW_some] <;> rfl), by repeat (first | (with_reducible first | exact HB.out | apply zA_ | apply zN_ | apply zD_ | refine below_set ?_ GE141.out | refine below_set ?_ GE162.out | refine below_set ?_ GE163.out) | exact HB.out)⟩
           ·
            rw [if_neg c79] at H
            have c79b0 : (a3 == 304) = false := beq_eq_false_iff_ne.mpr c79
            have c79b1 : (a3 != 304) = true := bne_iff_ne.mpr c79
            by_cases c80 : t158 ≥ 0
            ·
             rw [if_pos c80] at H
             have c80b0 : decide (0 ≤ t158) = true := decide_eq_true c80
             clear c80
             obtain rfl := Option.some.inj H
             go_wp2_with (first | ((with_reducible refine gate_callee (f := 30) rfl ?_); refine goesL_ (some 80) rfl rfl Tryz.func30 (by kernel_rfl) rfl #[.int .i64 a3] rfl (by (try simp only [mA_, mC_, mN_]); first | done | rfl | (simp only [List.length_drop, List.length_take]; rfl)) ?_; (with_reducible refine (fresh_usual.calls a3 false _ A74.out).mono ?_); rintro e w' ⟨rfl, ⟨nd, rfl⟩⟩; refine ⟨_, rfl, ?_⟩; have hnb81 := NB163_141.out; have hnc81 := NB141_163.out; have hnb82 := NB163_162.out; have hnc82 := NB162_163.out; have hcz83_0 : wc.cell? ⟨gb163, 0, none⟩ = some (.bool t152) := (blk_cell BK163.out 0).trans rfl; have hcz83_1 : wc.cell? ⟨gb163, 1, none⟩ = some (.bool t153) := (blk_cell BK163.out 1).trans rfl; have hcz83_2 : wc.cell? ⟨gb163, 2, none⟩ = some (.bool t154) := (blk_cell BK163.out 2).trans rfl; have hcz83_3 : wc.cell? ⟨gb163, 3, none⟩ = some (.bool t155) := (blk_cell BK163.out 3).trans rfl; have hcz83_4 : wc.cell? ⟨gb163, 4, none⟩ = some (.bool t156) := (blk_cell BK163.out 4).trans rfl; have hcz83_5 : wc.cell? ⟨gb163, 5, none⟩ = some (.bool t157) := (blk_cell BK163.out 5).trans rfl; have hcz83_6 : wc.cell? ⟨gb163, 6, none⟩ = some (.int .i64 t158) := (blk_cell BK163.out 6).trans rfl; have hcz83_7 : wc.cell? ⟨gb163, 7, none⟩ = some (.int .i64 t159) := (blk_cell BK163.out 7).trans rfl; have hcz83_8 : wc.cell? ⟨gb163, 8, none⟩ = some (.int .i64 t160) := (blk_cell BK163.out 8).trans rfl; have hcz83_9 : wc.cell? ⟨gb163, 9, none⟩ = some (.int .i64 t161) := (blk_cell BK163.out 9).trans rfl; have hfz83_0 := blk_frozen BK163.out 0; have hfz83_1 := blk_frozen BK163.out 1; have hfz83_2 := blk_frozen BK163.out 2; have hfz83_3 := blk_frozen BK163.out 3; have hfz83_4 := blk_frozen BK163.out 4; have hfz83_5 := blk_frozen BK163.out 5; have hfz83_6 := blk_frozen BK163.out 6; have hfz83_7 := blk_frozen BK163.out 7; have hfz83_8 := blk_frozen BK163.out 8; have hfz83_9 := blk_frozen BK163.out 9))
             go_ret
             exact ⟨by first | rfl | (generalize ByteArray.toList _ = l_; cases l_ <;> rfl) | (simp [errW_none, errW_some] <;> rfl) | (simp [*, errW_none, errW_some] <;> rfl), by repeat (first | (with_reducible first | exact HB.out | apply zA_ | apply zN_ | apply zD_ | refine below_set ?_ GE141.out | refine below_set ?_ GE162.out | refine below_set ?_ GE163.out) | exact HB.out)⟩
            ·
             rw [if_neg c80] at H
             have c80b0 : decide (0 ≤ t158) = false := decide_eq_false c80
             clear c80
             by_cases c84 : t159 ≥ 0
             ·
              rw [if_pos c84] at H
              have c84b0 : decide (0 ≤ t159) = true := decide_eq_true c84
              clear c84
              obtain rfl := Option.some.inj H
              go_wp2_with (first | ((with_reducible refine gate_callee (f := 30) rfl ?_); refine goesL_ (some 80) rfl rfl Tryz.func30 (by kernel_rfl) rfl #[.int .i64 a3] rfl (by (try simp only [mA_, mC_, mN_]); first | done | rfl | (simp only [List.length_drop, List.length_take]; rfl)) ?_; (with_reducible refine (fresh_usual.calls a3 false _ A74.out).mono ?_); rintro e w' ⟨rfl, ⟨nd, rfl⟩⟩; refine ⟨_, rfl, ?_⟩; have hnb85 := NB163_141.out; have hnc85 := NB141_163.out; have hnb86 := NB163_162.out; have hnc86 := NB162_163.out; have hcz87_0 : wc.cell? ⟨gb163, 0, none⟩ = some (.bool t152) := (blk_cell BK163.out 0).trans rfl; have hcz87_1 : wc.cell? ⟨gb163, 1, none⟩ = some (.bool t153) := (blk_cell BK163.out 1).trans rfl; have hcz87_2 : wc.cell? ⟨gb163, 2, none⟩ = some (.bool t154) := (blk_cell BK163.out 2).trans rfl; have hcz87_3 : wc.cell? ⟨gb163, 3, none⟩ = some (.bool t155) := (blk_cell BK163.out 3).trans rfl; have hcz87_4 : wc.cell? ⟨gb163, 4, none⟩ = some (.bool t156) := (blk_cell BK163.out 4).trans rfl; have hcz87_5 : wc.cell? ⟨gb163, 5, none⟩ = some (.bool t157) := (blk_cell BK163.out 5).trans rfl; have hcz87_6 : wc.cell? ⟨gb163, 6, none⟩ = some (.int .i64 t158) := (blk_cell BK163.out 6).trans rfl; have hcz87_7 : wc.cell? ⟨gb163, 7, none⟩ = some (.int .i64 t159) := (blk_cell BK163.out 7).trans rfl; have hcz87_8 : wc.cell? ⟨gb163, 8, none⟩ = some (.int .i64 t160) := (blk_cell BK163.out 8).trans rfl; have hcz87_9 : wc.cell? ⟨gb163, 9, none⟩ = some (.int .i64 t161) := (blk_cell BK163.out 9).trans rfl; have hfz87_0 := blk_frozen BK163.out 0; have hfz87_1 := blk_frozen BK163.out 1; have hfz87_2 := blk_frozen BK163.out 2; have hfz87_3 := blk_frozen BK163.out 3; have hfz87_4 := blk_frozen BK163.out 4; have hfz87_5 := blk_frozen BK163.out 5; have hfz87_6 := blk_frozen BK163.out 6; have hfz87_7 := blk_frozen BK163.out 7; have hfz87_8 := blk_frozen BK163.out 8; have hfz87_9 := blk_frozen BK163.out 9))
              go_ret
              exact ⟨by first | rfl | (generalize ByteArray.toList _ = l_; cases l_ <;> rfl) | (simp [errW_none, errW_some] <;> rfl) | (simp [*, errW_none, errW_some] <;> rfl), by repeat (first | (with_reducible first | exact HB.out | apply zA_ | apply zN_ | apply zD_ | refine below_set ?_ GE141.out | refine below_set ?_ GE162.out | refine below_set ?_ GE163.out) | exact HB.out)⟩
             ·
              rw [if_neg c84] at H
              have c84b0 : decide (0 ≤ t159) = false := decide_eq_false c84
              clear c84
              obtain rfl := Option.some.inj H
              go_wp2_with (first | ((with_reducible refine gate_callee (f := 30) rfl ?_); refine goesL_ (some 80) rfl rfl Tryz.func30 (by kernel_rfl) rfl #[.int .i64 a3] rfl (by (try simp only [mA_, mC_, mN_]); first | done | rfl | (simp only [List.length_drop, List.length_take]; rfl)) ?_; (with_reducible refine (fresh_usual.calls a3 false _ A74.out).mono ?_); rintro e w' ⟨rfl, ⟨nd, rfl⟩⟩; refine ⟨_, rfl, ?_⟩; have hnb88 := NB163_141.out; have hnc88 := NB141_163.out; have hnb89 := NB163_162.out; have hnc89 := NB162_163.out; have hcz90_0 : wc.cell? ⟨gb163, 0, none⟩ = some (.bool t152) := (blk_cell BK163.out 0).trans rfl; have hcz90_1 : wc.cell? ⟨gb163, 1, none⟩ = some (.bool t153) := (blk_cell BK163.out 1).trans rfl; have hcz90_2 : wc.cell? ⟨gb163, 2, none⟩ = some (.bool t154) := (blk_cell BK163.out 2).trans rfl; have hcz90_3 : wc.cell? ⟨gb163, 3, none⟩ = some (.bool t155) := (blk_cell BK163.out 3).trans rfl; have hcz90_4 : wc.cell? ⟨gb163, 4, none⟩ = some (.bool t156) := (blk_cell BK163.out 4).trans rfl; have hcz90_5 : wc.cell? ⟨gb163, 5, none⟩ = some (.bool t157) := (blk_cell BK163.out 5).trans rfl; have hcz90_6 : wc.cell? ⟨gb163, 6, none⟩ = some (.int .i64 t158) := (blk_cell BK163.out 6).trans rfl; have hcz90_7 : wc.cell? ⟨gb163, 7, none⟩ = some (.int .i64 t159) := (blk_cell BK163.out 7).trans rfl; have hcz90_8 : wc.cell? ⟨gb163, 8, none⟩ = some (.int .i64 t160) := (blk_cell BK163.out 8).trans rfl; have hcz90_9 : wc.cell? ⟨gb163, 9, none⟩ = some (.int .i64 t161) := (blk_cell BK163.out 9).trans rfl; have hfz90_0 := blk_frozen BK163.out 0; have hfz90_1 := blk_frozen BK163.out 1; have hfz90_2 := blk_frozen BK163.out 2; have hfz90_3 := blk_frozen BK163.out 3; have hfz90_4 := blk_frozen BK163.out 4; have hfz90_5 := blk_frozen BK163.out 5; have hfz90_6 := blk_frozen BK163.out 6; have hfz90_7 := blk_frozen BK163.out 7; have hfz90_8 := blk_frozen BK163.out 8; have hfz90_9 := blk_frozen BK163.out 9))
              go_ret
              exact ⟨by first | rfl | (generalize ByteArray.toList _ = l_; cases l_ <;> rfl) | (simp [errW_none, errW_some] <;> rfl) | (simp [*, errW_none, errW_some] <;> rfl), by repeat (first | (with_reducible first | exact HB.out | apply zA_ | apply zN_ | apply zD_ | refine below_set ?_ GE141.out | refine below_set ?_ GE162.out | refine below_set ?_ GE163.out) | exact HB.out)⟩
         ·
          rw [if_neg c77] at H
          have c77b0 : decide (a3 ≤ 599) = false := decide_eq_false c77
          clear c77
          obtain rfl := Option.some.inj H
          go_wp2_with (first | ((with_reducible refine gate_callee (f := 30) rfl ?_); refine goesL_ (some 80) rfl rfl Tryz.func30 (by kernel_rfl) rfl #[.int .i64 a3] rfl (by (try simp only [mA_, mC_, mN_]); first | done | rfl | (simp only [List.length_drop, List.length_take]; rfl)) ?_; (with_reducible refine (fresh_usual.calls a3 false _ A74.out).mono ?_); rintro e w' ⟨rfl, ⟨nd, rfl⟩⟩; refine ⟨_, rfl, ?_⟩))
          go_ret
          exact ⟨by first | rfl | (generalize ByteArray.toList _ = l_; cases l_ <;> rfl) | (simp [errW_none, errW_some] <;> rfl) | (simp [*, errW_none, errW_some] <;> rfl), by repeat (first | (with_reducible first | exact HB.out | apply zA_ | apply zN_ | apply zD_ | refine below_set ?_ GE141.out | refine below_set ?_ GE162.out | refine below_set ?_ GE163.out) | exact HB.out)⟩
        ·
         rw [if_neg c76] at H
         have c76b0 : decide (200 ≤ a3) = false := decide_eq_false c76
         clear c76
         obtain rfl := Option.some.inj H
         go_wp2_with (first | ((with_reducible refine gate_callee (f := 30) rfl ?_); refine goesL_ (some 80) rfl rfl Tryz.func30 (by kernel_rfl) rfl #[.int .i64 a3] rfl (by (try simp only [mA_, mC_, mN_]); first | done | rfl | (simp only [List.length_drop, List.length_take]; rfl)) ?_; (with_reducible refine (fresh_usual.calls a3 false _ A74.out).mono ?_); rintro e w' ⟨rfl, ⟨nd, rfl⟩⟩; refine ⟨_, rfl, ?_⟩))
         go_ret
         exact ⟨by first | rfl | (generalize ByteArray.toList _ = l_; cases l_ <;> rfl) | (simp [errW_none, errW_some] <;> rfl) | (simp [*, errW_none, errW_some] <;> rfl), by repeat (first | (with_reducible first | exact HB.out | apply zA_ | apply zN_ | apply zD_ | refine below_set ?_ GE141.out | refine below_set ?_ GE162.out | refine below_set ?_ GE163.out) | exact HB.out)⟩

end Go.Proofs.YtgpekljckdgggaaGreatDoor.PAll
