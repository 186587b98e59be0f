import Derived.Test.YtgpekljckdgggaaGreatDoorPAllx0
import Derived.Test.YtgpekljckdgggaaGreatDoorPAllx13
import Derived.Test.YtgpekljckdgggaaGreatDoorPAllx14
import Derived.Test.YtgpekljckdgggaaGreatDoorPAllx15
import Derived.Test.YtgpekljckdgggaaGreatDoorPAllx16
namespace Go.Proofs.YtgpekljckdgggaaGreatDoor.PAll
open Go.RowKit Go.Proofs.YtgpekljckdgggaaGreatDoorW.PrintWords Go.Proofs.YtgpekljckdgggaaGreatDoorW.PrintLast Go.Proofs.YtgpekljckdgggaaGreatDoorW.PrintMore
attribute [local go_sem] max2_int min2_int max_two min_two max_three min_three max_four min_four   -- for this text's walks alone
set_option linter.unusedVariables false
set_option linter.unusedSimpArgs false

/-! ### pantryref03_Has: function 58 -/
def pantryref03_Has.l0 : Nat → ByteArray → List ByteArray → Int → Option (Bool)
 | 0, _, _, _ => none
 | k + 1, x2, x7, x8 => if x8 < (x7.length : Int) then (if 0 ≤ x8 then ((pantryref01_Lower.f k (rdOf ByteArray.empty x7 x8)).bind fun t347 => ((pantryref01_Lower.f k x2).bind fun t348 => (if t347.toList = t348.toList then (some true) else (pantryref03_Has.l0 k x2 x7 (wrap64 (x8 + 1)))))) else (none)) else (some false)
def pantryref03_Has.f (k : Nat) (l0 : List (S70)) (a1 : ByteArray) (a2 : ByteArray) : Option (Bool) := (pantryref03_Elements.f k l0 a1).bind fun t343 => (pantryref03_Has.l0 k a2 t343 0)
theorem pantryref03_Has.mono_l : ∀ k, (∀ y0 y1 y2, LeO (pantryref03_Has.l0 k y0 y1 y2) (pantryref03_Has.l0 (k + 1) y0 y1 y2))
 | 0 => fun _ _ _ r h => by simp [pantryref03_Has.l0] at h
 | k + 1 => by
  have ih0 := pantryref03_Has.mono_l k
  ·
   intro y0 y1 y2
   unfold pantryref03_Has.l0
   repeat' (with_reducible first | exact ih0 _ _ _ | exact pantryref01_Lower.mono _ _ | exact pantryref03_Elements.mono _ _ _ | exact lR_ | refine LeO.ite ?_ ?_ | refine LeO.bind ?_ (fun _ => ?_))
theorem pantryref03_Has.mono : ∀ a0 a1 a2 k, LeO (pantryref03_Has.f k a0 a1 a2) (pantryref03_Has.f (k + 1) a0 a1 a2) := by
 intro a0 a1 a2 k
 have ih0 := pantryref03_Has.mono_l k
 unfold pantryref03_Has.f
 repeat' (with_reducible first | exact ih0 _ _ _ | exact pantryref01_Lower.mono _ _ | exact pantryref03_Elements.mono _ _ _ | exact lR_ | refine LeO.ite ?_ ?_ | refine LeO.bind ?_ (fun _ => ?_))
set_option maxHeartbeats 8000000 in
set_option maxRecDepth 100000 in
theorem pantryref03_Has.calls (k : Nat) (A0 : Option Addr) (c0 : Nat) (l0 : List (S70)) (a1 : ByteArray) (a2 : ByteArray) (r : Bool) (w : World) (hr0 : Kd.C k70 w A0 l0.length l0) (hc0 : l0.length ≤ c0) (h : pantryref03_Has.f k l0 a1 a2 = some r) :
  Calls Tryz.prog 58 #[.slice A0 l0.length c0, .string a1, .string a2] w fun e w' => e = .returned (.bool r) ∧ Below w.heap.size w w' := by
 have HR0 := Aside0.mk hr0
 have HC0 := Aside0.mk hc0
 clear hr0 hc0
 have HB := Aside0.mk (Below.refl w.heap.size w)
 have H : ((pantryref03_Elements.f k l0 a1).bind fun t343 => (pantryref03_Has.l0 k a2 t343 0)) = some r := h
 clear h
 obtain ⟨t343, A4, H⟩ := bS_ H
 try dsimp only at H
 have H' := Aside0.mk H
 clear H
 go_enter Tryz.func58, Tryz.ntmps58
 go_wp2_with (first | ((with_reducible refine gate_callee (f := 55) rfl ?_); refine goesL_ (some 11) rfl rfl Tryz.func55 (by kernel_rfl) rfl #[.slice A0 l0.length c0, .string a1] rfl T1_ ?_; (with_reducible refine (pantryref03_Elements.calls k _ _ l0 a1 t343 _ ?side1 ?side2 A4.out).mono ?_); (case side1 => exact C1_ (HR0.out)); (case side2 => exact HC0.out); rintro e w5 ⟨v344, rfl, ho0, hb⟩; refine ⟨_, rfl, ?_⟩; have HO345 := Aside0.mk (Kd.R_lower ho0 (below_size W1_)); replace HB := y1_ hb; (try clear hb); (try clear ho0)))
 go_loopg [8] k (fun kq v8 w' => ∃ (x8_1 : Int), v8 = .int .i64 x8_1 ∧ Aside0 (pantryref03_Has.l0 kq a2 t343 x8_1 = some r) ∧ Aside0 (kq ≤ k) ∧ Aside0 (Kd.R Kd.string 9 w' w.heap.size (fun _ => True) v344 t343) ∧ Aside0 (Below w.heap.size w w'))
 case atStart => exact ⟨(0), E3_, H', ⟨Nat.le_refl _⟩, ⟨R1_ HO345.out⟩, ⟨W1_⟩⟩
 case round =>
  clear H'
  obtain ⟨x8_1, rfl, HA, HK1, HO_7, HB⟩ := hrel
  cases gk with
  | zero => exact absurd HA.out (by simp [pantryref03_Has.l0])
  | succ k1 =>
   have H := HA.out
   clear HA
   simp only [pantryref03_Has.l0] at H
   by_cases c6 : x8_1 < (t343.length : Int)
   ·
    rw [if_pos c6] at H
    have c6b0 : decide (x8_1 < (t343.length : Int)) = true := decide_eq_true c6
    clear c6
    by_cases c7 : 0 ≤ x8_1
    ·
     rw [if_pos c7] at H
     have c7b0 : decide (0 ≤ x8_1) = true := decide_eq_true c7
     clear c7
     obtain ⟨t347, A8, H⟩ := bS_ H
     try dsimp only at H
     obtain ⟨t348, A9, H⟩ := bS_ H
     try dsimp only at H
     by_cases c10 : t347.toList = t348.toList
     ·
      rw [if_pos c10] at H
      have c10b0 : (t347.toList == t348.toList) = true := beq_iff_eq.mpr c10
      have c10b1 : (t347.toList != t348.toList) = false := bne_eq_false_iff_eq.mpr c10
      clear c10
      obtain rfl := Option.some.inj H
      obtain ⟨Ao11, co11, eo11⟩ := Kd.R_slice HO_7.out
      subst eo11
      have p346 : 0 ≤ (x8_1 : Int) := oA_
      have q346 : x8_1 < (t343.length : Int) := oA_
      obtain ⟨ad346, e346, hx346_0⟩ := Kd.at_string (Kd.R_reads' HO_7.out).2.2 x8_1 p346 q346
      cases e346
      replace p346 := eq_true p346
      replace q346 := eq_true q346
      go_wp2_with (first | ((with_reducible refine gate_callee (f := 61) rfl ?_); refine goesL_ (some 22) rfl rfl Tryz.func61 (by kernel_rfl) rfl #[.string (rdOf ByteArray.empty t343 x8_1)] rfl T1_ ?_; (with_reducible refine (pantryref01_Lower.calls k1 (rdOf ByteArray.empty t343 x8_1) t347 _ A8.out).mono ?_); rintro e w12 ⟨rfl, hb⟩; refine ⟨_, rfl, ?_⟩; replace HO_7 := Aside0.mk (Kd.R_below (R1_ HO_7.out) hb); replace HB := y1_ hb; (try clear hb)) | ((with_reducible refine gate_callee (f := 61) rfl ?_); refine goesL_ (some 24) rfl rfl Tryz.func61 (by kernel_rfl) rfl #[.string a2] rfl T1_ ?_; (with_reducible refine (pantryref01_Lower.calls k1 a2 t348 _ A9.out).mono ?_); rintro e w13 ⟨rfl, hb⟩; refine ⟨_, rfl, ?_⟩; replace HO_7 := Aside0.mk (Kd.R_below (R1_ HO_7.out) hb); replace HB := y1_ hb; (try clear hb)))
      go_ret
      exact ⟨E1_, W1_⟩
     ·
      rw [if_neg c10] at H
      have c10b0 : (t347.toList == t348.toList) = false := beq_eq_false_iff_ne.mpr c10
      have c10b1 : (t347.toList != t348.toList) = true := bne_iff_ne.mpr c10
      have H' := Aside0.mk H
      clear H
      obtain ⟨Ao14, co14, eo14⟩ := Kd.R_slice HO_7.out
      subst eo14
      have p346 : 0 ≤ (x8_1 : Int) := oA_
      have q346 : x8_1 < (t343.length : Int) := oA_
      obtain ⟨ad346, e346, hx346_0⟩ := Kd.at_string (Kd.R_reads' HO_7.out).2.2 x8_1 p346 q346
      cases e346
      replace p346 := eq_true p346
      replace q346 := eq_true q346
      go_wp2_with (first | ((with_reducible refine gate_callee (f := 61) rfl ?_); refine goesL_ (some 22) rfl rfl Tryz.func61 (by kernel_rfl) rfl #[.string (rdOf ByteArray.empty t343 x8_1)] rfl T1_ ?_; (with_reducible refine (pantryref01_Lower.calls k1 (rdOf ByteArray.empty t343 x8_1) t347 _ A8.out).mono ?_); rintro e w15 ⟨rfl, hb⟩; refine ⟨_, rfl, ?_⟩; replace HO_7 := Aside0.mk (Kd.R_below (R1_ HO_7.out) hb); replace HB := y1_ hb; (try clear hb)) | ((with_reducible refine gate_callee (f := 61) rfl ?_); refine goesL_ (some 24) rfl rfl Tryz.func61 (by kernel_rfl) rfl #[.string a2] rfl T1_ ?_; (with_reducible refine (pantryref01_Lower.calls k1 a2 t348 _ A9.out).mono ?_); rintro e w16 ⟨rfl, hb⟩; refine ⟨_, rfl, ?_⟩; replace HO_7 := Aside0.mk (Kd.R_below (R1_ HO_7.out) hb); replace HB := y1_ hb; (try clear hb)))
      go_roundg k1
      case measure => have := HK1.out; omega
      case rel => exact ⟨(wrap64 (x8_1 + 1)), E3_, H', ⟨by have := HK1.out; omega⟩, ⟨R1_ HO_7.out⟩, ⟨W1_⟩⟩
    ·
     rw [if_neg c7] at H
     exact absurd H (by simp)
   ·
    rw [if_neg c6] at H
    have c6b0 : decide (x8_1 < (t343.length : Int)) = false := decide_eq_false c6
    clear c6
    obtain rfl := Option.some.inj H
    obtain ⟨Ao17, co17, eo17⟩ := Kd.R_slice HO_7.out
    subst eo17
    go_wp2
    go_ret
    exact ⟨E1_, W1_⟩

/-! ### pantryref04_Of: function 31 -/
def pantryref04_Of.j0 : Nat → List (S70) → List ByteArray → Bool → Bool → Bool → Bool → Bool → Bool → Int → Int → Int → Int → Option (Bool × Bool × Bool × Bool × Bool × Bool × Int × Int × Int × Int)
 | 0, _, _, _, _, _, _, _, _, _, _, _, _ => none
 | k + 1, x0, x3, x359000, x359001, x359002, x359003, x359004, x359005, x359006, x359007, x359008, x359009 => (pantryref04_told.f k x3 (⟨#[109, 97, 120, 45, 97, 103, 101]⟩ : ByteArray) 0 0 false).bind fun t361 => ((pantryref04_told.f k x3 (⟨#[115, 45, 109, 97, 120, 97, 103, 101]⟩ : ByteArray) 0 0 false).bind fun t362 => ((pantryref04_told.f k x3 (⟨#[109, 105, 110, 45, 102, 114, 101, 115, 104]⟩ : ByteArray) 2147483648 2147483648 true).bind fun t363 => ((pantryref04_told.f k x3 (⟨#[109, 97, 120, 45, 115, 116, 97, 108, 101]⟩ : ByteArray) 0 2147483648 false).bind fun t364 => ((pantryref03_Get.f k x0 (⟨#[99, 97, 99, 104, 101, 45, 99, 111, 110, 116, 114, 111, 108]⟩ : ByteArray)).bind fun bt365 => (if bt365.2 = 0 then ((pantryref03_Has.f k x0 (⟨#[112, 114, 97, 103, 109, 97]⟩ : ByteArray) (⟨#[110, 111, 45, 99, 97, 99, 104, 101]⟩ : ByteArray)).bind fun t367 => (if t367 = true then (some (x359000, true, x359002, x359003, x359004, x359005, t361, t362, t363, t364)) else (some (x359000, x359001, x359002, x359003, x359004, x359005, t361, t362, t363, t364)))) else (some (x359000, x359001, x359002, x359003, x359004, x359005, t361, t362, t363, t364)))))))
def pantryref04_Of.f (k : Nat) (l0 : List (S70)) : Option (Bool × Bool × Bool × Bool × Bool × Bool × Int × Int × Int × Int) := (pantryref03_Elements.f k l0 (⟨#[99, 97, 99, 104, 101, 45, 99, 111, 110, 116, 114, 111, 108]⟩ : ByteArray)).bind fun t350 => ((pantryref04_said.f k t350 (⟨#[110, 111, 45, 115, 116, 111, 114, 101]⟩ : ByteArray)).bind fun t353 => ((pantryref04_said.f k t350 (⟨#[110, 111, 45, 99, 97, 99, 104, 101]⟩ : ByteArray)).bind fun t354 => ((pantryref04_said.f k t350 (⟨#[112, 114, 105, 118, 97, 116, 101]⟩ : ByteArray)).bind fun t355 => ((pantryref04_said.f k t350 (⟨#[112, 117, 98, 108, 105, 99]⟩ : ByteArray)).bind fun t356 => ((pantryref04_said.f k t350 (⟨#[111, 110, 108, 121, 45, 105, 102, 45, 99, 97, 99, 104, 101, 100]⟩ : ByteArray)).bind fun t357 => ((pantryref04_said.f k t350 (⟨#[109, 117, 115, 116, 45, 114, 101, 118, 97, 108, 105, 100, 97, 116, 101]⟩ : ByteArray)).bind fun t359 => (if t359 = true then (pantryref04_Of.j0 k l0 t350 t353 t354 t355 t356 true t357 0 0 0 0) else ((pantryref04_said.f k t350 (⟨#[112, 114, 111, 120, 121, 45, 114, 101, 118, 97, 108, 105, 100, 97, 116, 101]⟩ : ByteArray)).bind fun t360 => (pantryref04_Of.j0 k l0 t350 t353 t354 t355 t356 t360 t357 0 0 0 0)))))))))
theorem pantryref04_Of.mono_l : ∀ k, (∀ y0 y1 y2 y3 y4 y5 y6 y7 y8 y9 y10 y11, LeO (pantryref04_Of.j0 k y0 y1 y2 y3 y4 y5 y6 y7 y8 y9 y10 y11) (pantryref04_Of.j0 (k + 1) y0 y1 y2 y3 y4 y5 y6 y7 y8 y9 y10 y11))
 | 0 => fun _ _ _ _ _ _ _ _ _ _ _ _ r h => by simp [pantryref04_Of.j0] at h
 | k + 1 => by
  have ih0 := pantryref04_Of.mono_l k
  ·
   intro y0 y1 y2 y3 y4 y5 y6 y7 y8 y9 y10 y11
   unfold pantryref04_Of.j0
   repeat' (with_reducible first | exact ih0 _ _ _ _ _ _ _ _ _ _ _ _ | exact pantryref03_Elements.mono _ _ _ | exact pantryref03_Get.mono _ _ _ | exact pantryref03_Has.mono _ _ _ _ | exact pantryref04_said.mono _ _ _ | exact pantryref04_told.mono _ _ _ _ _ _ | exact lR_ | refine LeO.ite ?_ ?_ | refine LeO.bind ?_ (fun _ => ?_))
theorem pantryref04_Of.mono : ∀ a0 k, LeO (pantryref04_Of.f k a0) (pantryref04_Of.f (k + 1) a0) := by
 intro a0 k
 have ih0 := pantryref04_Of.mono_l k
 unfold pantryref04_Of.f
 repeat' (with_reducible first | exact ih0 _ _ _ _ _ _ _ _ _ _ _ _ | exact pantryref03_Elements.mono _ _ _ | exact pantryref03_Get.mono _ _ _ | exact pantryref03_Has.mono _ _ _ _ | exact pantryref04_said.mono _ _ _ | exact pantryref04_told.mono _ _ _ _ _ _ | exact lR_ | refine LeO.ite ?_ ?_ | refine LeO.bind ?_ (fun _ => ?_))
set_option maxHeartbeats 8000000 in
set_option maxRecDepth 100000 in
theorem pantryref04_Of.calls (k : Nat) (A0 : Option Addr) (c0 : Nat) (l0 : List (S70)) (r1 : Bool) (r2 : Bool) (r3 : Bool) (r4 : Bool) (r5 : Bool) (r6 : Bool) (r7 : Int) (r8 : Int) (r9 : Int) (r10 : Int) (w : World) (hr0 : Kd.C k70 w A0 l0.length l0) (hc0 : l0.length ≤ c0) (h : pantryref04_Of.f k l0 = some (r1, r2, r3, r4, r5, r6, r7, r8, r9, r10)) :
  Calls Tryz.prog 31 #[.slice A0 l0.length c0] w fun e w' => e = .returned (.agg #[.bool r1, .bool r2, .bool r3, .bool r4, .bool r5, .bool r6, .int .i64 r7, .int .i64 r8, .int .i64 r9, .int .i64 r10]) ∧ Below w.heap.size w w' := by
 have hu64 := Tryz.underlying64
 have HR0 := Aside0.mk hr0
 have HC0 := Aside0.mk hc0
 clear hr0 hc0
 have HB := Aside0.mk (Below.refl w.heap.size w)
 have H : ((pantryref03_Elements.f k l0 (⟨#[99, 97, 99, 104, 101, 45, 99, 111, 110, 116, 114, 111, 108]⟩ : ByteArray)).bind fun t350 => ((pantryref04_said.f k t350 (⟨#[110, 111, 45, 115, 116, 111, 114, 101]⟩ : ByteArray)).bind fun t353 => ((pantryref04_said.f k t350 (⟨#[110, 111, 45, 99, 97, 99, 104, 101]⟩ : ByteArray)).bind fun t354 => ((pantryref04_said.f k t350 (⟨#[112, 114, 105, 118, 97, 116, 101]⟩ : ByteArray)).bind fun t355 => ((pantryref04_said.f k t350 (⟨#[112, 117, 98, 108, 105, 99]⟩ : ByteArray)).bind fun t356 => ((pantryref04_said.f k t350 (⟨#[111, 110, 108, 121, 45, 105, 102, 45, 99, 97, 99, 104, 101, 100]⟩ : ByteArray)).bind fun t357 => ((pantryref04_said.f k t350 (⟨#[109, 117, 115, 116, 45, 114, 101, 118, 97, 108, 105, 100, 97, 116, 101]⟩ : ByteArray)).bind fun t359 => (if t359 = true then (pantryref04_Of.j0 k l0 t350 t353 t354 t355 t356 true t357 0 0 0 0) else ((pantryref04_said.f k t350 (⟨#[112, 114, 111, 120, 121, 45, 114, 101, 118, 97, 108, 105, 100, 97, 116, 101]⟩ : ByteArray)).bind fun t360 => (pantryref04_Of.j0 k l0 t350 t353 t354 t355 t356 t360 t357 0 0 0 0)))))))))) = some (r1, r2, r3, r4, r5, r6, r7, r8, r9, r10) := h
 clear h
 obtain ⟨t350, A2, H⟩ := bS_ H
 try dsimp only at H
 obtain ⟨t353, A3, H⟩ := bS_ H
 try dsimp only at H
 obtain ⟨t354, A4, H⟩ := bS_ H
 try dsimp only at H
 obtain ⟨t355, A5, H⟩ := bS_ H
 try dsimp only at H
 obtain ⟨t356, A6, H⟩ := bS_ H
 try dsimp only at H
 obtain ⟨t357, A7, H⟩ := bS_ H
 try dsimp only at H
 have HC8 := Aside0.mk H
 clear H
 go_enter Tryz.func31, Tryz.ntmps31
 go_upto_region 3 with (first | ((with_reducible refine gate_dst (N := 2) rfl ?_); refine box_event ?hg (N := 2) ?hd (cs := #[.bool false, .bool false, .bool false, .bool false, .bool false, .bool false, .int .i64 0, .int .i64 0, .int .i64 0, .int .i64 0]) (t := 64) ?hr ?_; (case hd | hg => rfl); (case hr => exact S1_); intro gb349 hg w9 hbox hb; have BK349 := Aside0.mk (hbox); have GW349 := Aside0.mk ((Z1_ : w.heap.size ≤ gb349)); have GE349 := Aside0.mk ((Z1_ : w.heap.size ≤ gb349)); replace HB := y1_ hb; clear hb hbox hg) | ((with_reducible refine gate_callee (f := 55) rfl ?_); refine goesL_ (some 8) rfl rfl Tryz.func55 (by kernel_rfl) rfl #[.slice A0 l0.length c0, .string (⟨#[99, 97, 99, 104, 101, 45, 99, 111, 110, 116, 114, 111, 108]⟩ : ByteArray)] rfl T1_ ?_; (with_reducible refine (pantryref03_Elements.calls k _ _ l0 (⟨#[99, 97, 99, 104, 101, 45, 99, 111, 110, 116, 114, 111, 108]⟩ : ByteArray) t350 _ ?side1 ?side2 A2.out).mono ?_); (case side1 => exact C1_ ((Kd.C_below HR0.out HB.out))); (case side2 => exact HC0.out); rintro e w10 ⟨v351, rfl, ho0, hb⟩; refine ⟨_, rfl, ?_⟩; have HO352 := Aside0.mk (Kd.R_lower ho0 (below_size W2_)); replace BK349 := yB_ BK349 hb; replace HB := y2_ hb; (try clear hb); (try clear ho0); obtain ⟨Ao11, co11, eo11⟩ := Kd.R_slice HO352.out; subst eo11) | ((with_reducible refine gate_callee (f := 56) rfl ?_); refine goesL_ (some 10) rfl rfl Tryz.func56 (by kernel_rfl) rfl #[.slice Ao11 t350.length co11, .string (⟨#[110, 111, 45, 115, 116, 111, 114, 101]⟩ : ByteArray)] rfl T1_ ?_; (with_reducible refine (pantryref04_said.calls k _ _ t350 (⟨#[110, 111, 45, 115, 116, 111, 114, 101]⟩ : ByteArray) t353 _ ?side1 ?side2 A3.out).mono ?_); (case side1 => exact C1_ ((Kd.R_reads' HO352.out).2.2)); (case side2 => exact (Kd.R_reads' HO352.out).2.1); rintro e w12 ⟨rfl, hb⟩; refine ⟨_, rfl, ?_⟩; replace HO352 := Aside0.mk (Kd.R_below (R1_ HO352.out) hb); replace BK349 := yB_ BK349 hb; replace HB := y2_ hb; (try clear hb)) | ((with_reducible refine gate_callee (f := 56) rfl ?_); refine goesL_ (some 12) rfl rfl Tryz.func56 (by kernel_rfl) rfl #[.slice Ao11 t350.length co11, .string (⟨#[110, 111, 45, 99, 97, 99, 104, 101]⟩ : ByteArray)] rfl T1_ ?_; (with_reducible refine (pantryref04_said.calls k _ _ t350 (⟨#[110, 111, 45, 99, 97, 99, 104, 101]⟩ : ByteArray) t354 _ ?side1 ?side2 A4.out).mono ?_); (case side1 => exact C1_ ((Kd.R_reads' HO352.out).2.2)); (case side2 => exact (Kd.R_reads' HO352.out).2.1); rintro e w13 ⟨rfl, hb⟩; refine ⟨_, rfl, ?_⟩; replace HO352 := Aside0.mk (Kd.R_below (R1_ HO352.out) hb); replace BK349 := yB_ BK349 hb; replace HB := y2_ hb; (try clear hb)) | ((with_reducible refine gate_callee (f := 56) rfl ?_); refine goesL_ (some 14) rfl rfl Tryz.func56 (by kernel_rfl) rfl #[.slice Ao11 t350.length co11, .string (⟨#[112, 114, 105, 118, 97, 116, 101]⟩ : ByteArray)] rfl T1_ ?_; (with_reducible refine (pantryref04_said.calls k _ _ t350 (⟨#[112, 114, 105, 118, 97, 116, 101]⟩ : ByteArray) t355 _ ?side1 ?side2 A5.out).mono ?_); (case side1 => exact C1_ ((Kd.R_reads' HO352.out).2.2)); (case side2 => exact (Kd.R_reads' HO352.out).2.1); rintro e w14 ⟨rfl, hb⟩; refine ⟨_, rfl, ?_⟩; replace HO352 := Aside0.mk (Kd.R_below (R1_ HO352.out) hb); replace BK349 := yB_ BK349 hb; replace HB := y2_ hb; (try clear hb)) | ((with_reducible refine gate_callee (f := 56) rfl ?_); refine goesL_ (some 16) rfl rfl Tryz.func56 (by kernel_rfl) rfl #[.slice Ao11 t350.length co11, .string (⟨#[112, 117, 98, 108, 105, 99]⟩ : ByteArray)] rfl T1_ ?_; (with_reducible refine (pantryref04_said.calls k _ _ t350 (⟨#[112, 117, 98, 108, 105, 99]⟩ : ByteArray) t356 _ ?side1 ?side2 A6.out).mono ?_); (case side1 => exact C1_ ((Kd.R_reads' HO352.out).2.2)); (case side2 => exact (Kd.R_reads' HO352.out).2.1); rintro e w15 ⟨rfl, hb⟩; refine ⟨_, rfl, ?_⟩; replace HO352 := Aside0.mk (Kd.R_below (R1_ HO352.out) hb); replace BK349 := yB_ BK349 hb; replace HB := y2_ hb; (try clear hb)) | ((with_reducible refine gate_callee (f := 56) rfl ?_); refine goesL_ (some 18) rfl rfl Tryz.func56 (by kernel_rfl) rfl #[.slice Ao11 t350.length co11, .string (⟨#[111, 110, 108, 121, 45, 105, 102, 45, 99, 97, 99, 104, 101, 100]⟩ : ByteArray)] rfl T1_ ?_; (with_reducible refine (pantryref04_said.calls k _ _ t350 (⟨#[111, 110, 108, 121, 45, 105, 102, 45, 99, 97, 99, 104, 101, 100]⟩ : ByteArray) t357 _ ?side1 ?side2 A7.out).mono ?_); (case side1 => exact C1_ ((Kd.R_reads' HO352.out).2.2)); (case side2 => exact (Kd.R_reads' HO352.out).2.1); rintro e w16 ⟨rfl, hb⟩; refine ⟨_, rfl, ?_⟩; replace HO352 := Aside0.mk (Kd.R_below (R1_ HO352.out) hb); replace BK349 := yB_ BK349 hb; replace HB := y2_ hb; (try clear hb)) | ((with_reducible refine gate_dst (N := 4) rfl ?_); refine box_event ?hg (N := 4) ?hd (cs := #[.bool false, .bool false, .bool false, .bool false, .bool false, .bool false, .int .i64 0, .int .i64 0, .int .i64 0, .int .i64 0]) (t := 64) ?hr ?_; (case hd | hg => rfl); (case hr => exact S1_); intro gb358 hg w17 hbox hb; have BK358 := Aside0.mk (hbox); have GW358 := Aside0.mk ((Z2_ : w.heap.size ≤ gb358)); have GE358 := Aside0.mk ((Z2_ : w.heap.size ≤ gb358)); have NB349_358 := Aside0.mk ((by rw [hg]; exact Nat.ne_of_lt (blk_lt (B1_ BK349.out)) : gb349 ≠ gb358)); have NB358_349 := Aside0.mk ((by rw [hg]; exact Nat.ne_of_gt (blk_lt (B1_ BK349.out)) : gb358 ≠ gb349)); replace HO352 := Aside0.mk (Kd.R_below (R1_ HO352.out) hb); replace BK349 := yB_ BK349 hb; replace HB := y2_ hb; clear hb hbox hg; have hnb18 := NB358_349.out; have hnc18 := NB349_358.out; obtain ⟨z19_0, z19_1, z19_2, z19_3, z19_4, z19_5, z19_6, z19_7, z19_8, z19_9, y19_0, y19_1, y19_2, y19_3, y19_4, y19_5, y19_6, y19_7, y19_8, y19_9⟩ := cz10_ BK358.out))
 (try simp only [Act.put, sA_, sZ_, sS_])
 go_cut [] (fun wc => ∃ (kq : Nat) (x359004_7 : Bool), Aside0 (pantryref04_Of.j0 kq l0 t350 t353 t354 t355 t356 x359004_7 t357 0 0 0 0 = some (r1, r2, r3, r4, r5, r6, r7, r8, r9, r10)) ∧ Aside0 (kq ≤ k) ∧ Aside0 (Kd.R Kd.string 9 wc w.heap.size (fun _ => True) (.slice Ao11 t350.length co11) t350) ∧ Aside0 (wc.heap[gb349]? = some (.cells #[.bool false, .bool false, .bool false, .bool false, .bool false, .bool false, .int .i64 0, .int .i64 0, .int .i64 0, .int .i64 0] 64 (0, 0))) ∧ Aside0 (wc.heap[gb358]? = some (.cells #[.bool t353, .bool t354, .bool t355, .bool t356, .bool x359004_7, .bool t357, .int .i64 0, .int .i64 0, .int .i64 0, .int .i64 0] 64 (0, 0))) ∧ Aside0 (Below w.heap.size w wc))
 case first =>
  have H := HC8.out
  clear HC8
  obtain ⟨t359, A20, H⟩ := bS_ H
  try dsimp only at H
  by_cases c21 : t359 = true
  ·
   subst c21
   rw [if_pos rfl] at H
   have H' := Aside0.mk H
   clear H
   go_wp2_with (first | ((with_reducible refine gate_callee (f := 56) rfl ?_); refine goesL_ (some 21) rfl rfl Tryz.func56 (by kernel_rfl) rfl #[.slice Ao11 t350.length co11, .string (⟨#[109, 117, 115, 116, 45, 114, 101, 118, 97, 108, 105, 100, 97, 116, 101]⟩ : ByteArray)] rfl T1_ ?_; (with_reducible refine (pantryref04_said.calls k _ _ t350 (⟨#[109, 117, 115, 116, 45, 114, 101, 118, 97, 108, 105, 100, 97, 116, 101]⟩ : ByteArray) true _ ?side1 ?side2 A20.out).mono ?_); (case side1 => refine (Kd.R_reads' (e := 9) (base := w.heap.size) (ok := fun k_ => True) (n := t350.length) (c := co11) ?_).2.2; exact (by refine R1_ ?_; exact (Kd.R_mono (Kd.R_far (p := ⟨gb358, 9, none⟩) (Kd.R_far (p := ⟨gb358, 8, none⟩) (Kd.R_far (p := ⟨gb358, 7, none⟩) (Kd.R_far (p := ⟨gb358, 6, none⟩) (Kd.R_far (p := ⟨gb358, 5, none⟩) (Kd.R_far (p := ⟨gb358, 4, none⟩) (Kd.R_far (p := ⟨gb358, 3, none⟩) (Kd.R_far (p := ⟨gb358, 2, none⟩) (Kd.R_far (p := ⟨gb358, 1, none⟩) (Kd.R_far (p := ⟨gb358, 0, none⟩) (Kd.R_types HO352.out BK358.out (by decide)) (fun _ hk => hk.2) (.bool t353)) (fun _ hk => hk.2) (.bool t354)) (fun _ hk => hk.2) (.bool t355)) (fun _ hk => hk.2) (.bool t356)) (fun _ hk => hk.2) (.bool false)) (fun _ hk => hk.2) (.bool t357)) (fun _ hk => hk.2) (.int .i64 0)) (fun _ hk => hk.2) (.int .i64 0)) (fun _ hk => hk.2) (.int .i64 0)) (fun _ hk => hk.2) (.int .i64 0)) (fun _ h_ => h_.1)))); (case side2 => exact (Kd.R_reads' HO352.out).2.1); rintro e w22 ⟨rfl, hb⟩; refine ⟨_, rfl, ?_⟩; replace HO352 := Aside0.mk (Kd.R_below (by refine R1_ ?_; exact (Kd.R_mono (Kd.R_far (p := ⟨gb358, 9, none⟩) (Kd.R_far (p := ⟨gb358, 8, none⟩) (Kd.R_far (p := ⟨gb358, 7, none⟩) (Kd.R_far (p := ⟨gb358, 6, none⟩) (Kd.R_far (p := ⟨gb358, 5, none⟩) (Kd.R_far (p := ⟨gb358, 4, none⟩) (Kd.R_far (p := ⟨gb358, 3, none⟩) (Kd.R_far (p := ⟨gb358, 2, none⟩) (Kd.R_far (p := ⟨gb358, 1, none⟩) (Kd.R_far (p := ⟨gb358, 0, none⟩) (Kd.R_types HO352.out BK358.out (by decide)) (fun _ hk => hk.2) (.bool t353)) (fun _ hk => hk.2) (.bool t354)) (fun _ hk => hk.2) (.bool t355)) (fun _ hk => hk.2) (.bool t356)) (fun _ hk => hk.2) (.bool false)) (fun _ hk => hk.2) (.bool t357)) (fun _ hk => hk.2) (.int .i64 0)) (fun _ hk => hk.2) (.int .i64 0)) (fun _ hk => hk.2) (.int .i64 0)) (fun _ hk => hk.2) (.int .i64 0)) (fun _ h_ => h_.1))) hb); replace BK349 := Aside0.mk (blk_below (g := gb349) (o := .cells #[.bool false, .bool false, .bool false, .bool false, .bool false, .bool false, .int .i64 0, .int .i64 0, .int .i64 0, .int .i64 0] 64 (0, 0)) (G1_ BK349.out) hb); replace BK358 := Aside0.mk (blk_below (g := gb358) (o := .cells #[.bool t353, .bool t354, .bool t355, .bool t356, .bool false, .bool t357, .int .i64 0, .int .i64 0, .int .i64 0, .int .i64 0] 64 (0, 0)) (G1_ BK358.out) hb); replace HB := y2_ hb; (try clear hb); (try clear hk); have hnb23 := NB358_349.out; have hnc23 := NB349_358.out; obtain ⟨z24_0, z24_1, z24_2, z24_3, z24_4, z24_5, z24_6, z24_7, z24_8, z24_9, y24_0, y24_1, y24_2, y24_3, y24_4, y24_5, y24_6, y24_7, y24_8, y24_9⟩ := cz10_ BK358.out))
   go_meet
   case rel => exact ⟨_, (true), H', ⟨by first | omega | exact Nat.le_refl _⟩, ⟨by refine R1_ ?_; exact Kd.R_mono (Kd.R_far (p := ⟨gb358, 4, none⟩) (Kd.R_types HO352.out BK358.out (by decide)) (fun _ hk => hk.2) (.bool true)) (fun _ hk => trivial)⟩, ⟨G1_ BK349.out⟩, ⟨G1_ BK358.out⟩, ⟨W2_⟩⟩
  ·
   replace c21 := Bool.eq_false_iff.mpr c21
   subst c21
   rw [if_neg (show ¬ (false = true) by decide)] at H
   obtain ⟨t360, A25, H⟩ := bS_ H
   try dsimp only at H
   have H' := Aside0.mk H
   clear H
   go_wp2_with (first | ((with_reducible refine gate_callee (f := 56) rfl ?_); refine goesL_ (some 21) rfl rfl Tryz.func56 (by kernel_rfl) rfl #[.slice Ao11 t350.length co11, .string (⟨#[109, 117, 115, 116, 45, 114, 101, 118, 97, 108, 105, 100, 97, 116, 101]⟩ : ByteArray)] rfl T1_ ?_; (with_reducible refine (pantryref04_said.calls k _ _ t350 (⟨#[109, 117, 115, 116, 45, 114, 101, 118, 97, 108, 105, 100, 97, 116, 101]⟩ : ByteArray) false _ ?side1 ?side2 A20.out).mono ?_); (case side1 => refine (Kd.R_reads' (e := 9) (base := w.heap.size) (ok := fun k_ => True) (n := t350.length) (c := co11) ?_).2.2; exact (by refine R1_ ?_; exact (Kd.R_mono (Kd.R_far (p := ⟨gb358, 9, none⟩) (Kd.R_far (p := ⟨gb358, 8, none⟩) (Kd.R_far (p := ⟨gb358, 7, none⟩) (Kd.R_far (p := ⟨gb358, 6, none⟩) (Kd.R_far (p := ⟨gb358, 5, none⟩) (Kd.R_far (p := ⟨gb358, 4, none⟩) (Kd.R_far (p := ⟨gb358, 3, none⟩) (Kd.R_far (p := ⟨gb358, 2, none⟩) (Kd.R_far (p := ⟨gb358, 1, none⟩) (Kd.R_far (p := ⟨gb358, 0, none⟩) (Kd.R_types HO352.out BK358.out (by decide)) (fun _ hk => hk.2) (.bool t353)) (fun _ hk => hk.2) (.bool t354)) (fun _ hk => hk.2) (.bool t355)) (fun _ hk => hk.2) (.bool t356)) (fun _ hk => hk.2) (.bool false)) (fun _ hk => hk.2) (.bool t357)) (fun _ hk => hk.2) (.int .i64 0)) (fun _ hk => hk.2) (.int .i64 0)) (fun _ hk => hk.2) (.int .i64 0)) (fun _ hk => hk.2) (.int .i64 0)) (fun _ h_ => h_.1)))); (case side2 => exact (Kd.R_reads' HO352.out).2.1); rintro e w26 ⟨rfl, hb⟩; refine ⟨_, rfl, ?_⟩; replace HO352 := Aside0.mk (Kd.R_below (by refine R1_ ?_; exact (Kd.R_mono (Kd.R_far (p := ⟨gb358, 9, none⟩) (Kd.R_far (p := ⟨gb358, 8, none⟩) (Kd.R_far (p := ⟨gb358, 7, none⟩) (Kd.R_far (p := ⟨gb358, 6, none⟩) (Kd.R_far (p := ⟨gb358, 5, none⟩) (Kd.R_far (p := ⟨gb358, 4, none⟩) (Kd.R_far (p := ⟨gb358, 3, none⟩) (Kd.R_far (p := ⟨gb358, 2, none⟩) (Kd.R_far (p := ⟨gb358, 1, none⟩) (Kd.R_far (p := ⟨gb358, 0, none⟩) (Kd.R_types HO352.out BK358.out (by decide)) (fun _ hk => hk.2) (.bool t353)) (fun _ hk => hk.2) (.bool t354)) (fun _ hk => hk.2) (.bool t355)) (fun _ hk => hk.2) (.bool t356)) (fun _ hk => hk.2) (.bool false)) (fun _ hk => hk.2) (.bool t357)) (fun _ hk => hk.2) (.int .i64 0)) (fun _ hk => hk.2) (.int .i64 0)) (fun _ hk => hk.2) (.int .i64 0)) (fun _ hk => hk.2) (.int .i64 0)) (fun _ h_ => h_.1))) hb); replace BK349 := Aside0.mk (blk_below (g := gb349) (o := .cells #[.bool false, .bool false, .bool false, .bool false, .bool false, .bool false, .int .i64 0, .int .i64 0, .int .i64 0, .int .i64 0] 64 (0, 0)) (G1_ BK349.out) hb); replace BK358 := Aside0.mk (blk_below (g := gb358) (o := .cells #[.bool t353, .bool t354, .bool t355, .bool t356, .bool false, .bool t357, .int .i64 0, .int .i64 0, .int .i64 0, .int .i64 0] 64 (0, 0)) (G1_ BK358.out) hb); replace HB := y2_ hb; (try clear hb); (try clear hk)) | (go_at_call 56; (with_reducible refine (pantryref04_said.calls k _ _ t350 (⟨#[112, 114, 111, 120, 121, 45, 114, 101, 118, 97, 108, 105, 100, 97, 116, 101]⟩ : ByteArray) t360 _ ?side1 ?side2 A25.out).mono ?_); (case side1 => exact C1_ ((Kd.R_reads' HO352.out).2.2)); (case side2 => exact (Kd.R_reads' HO352.out).2.1); rintro e w27 ⟨rfl, hb⟩; replace HO352 := Aside0.mk (Kd.R_below (R1_ HO352.out) hb); replace BK349 := yB_ BK349 hb; replace BK358 := yB_ BK358 hb; replace HB := y2_ hb; (try clear hb); have hnb28 := NB358_349.out; have hnc28 := NB349_358.out; obtain ⟨z29_0, z29_1, z29_2, z29_3, z29_4, z29_5, z29_6, z29_7, z29_8, z29_9, y29_0, y29_1, y29_2, y29_3, y29_4, y29_5, y29_6, y29_7, y29_8, y29_9⟩ := cz10_ BK358.out))
   go_meet
   case rel => exact ⟨_, (t360), H', ⟨by first | omega | exact Nat.le_refl _⟩, ⟨by refine R1_ ?_; exact Kd.R_mono (Kd.R_far (p := ⟨gb358, 4, none⟩) (Kd.R_types HO352.out BK358.out (by decide)) (fun _ hk => hk.2) (.bool t360)) (fun _ hk => trivial)⟩, ⟨G1_ BK349.out⟩, ⟨G1_ BK358.out⟩, ⟨W2_⟩⟩
 case rest =>
  clear HC8
  (try clear c21); (try clear z19_0 z19_1 z19_2 z19_3 z19_4 z19_5 z19_6 z19_7 z19_8 z19_9 y19_0 y19_1 y19_2 y19_3 y19_4 y19_5 y19_6 y19_7 y19_8 y19_9); (try clear z24_0 z24_1 z24_2 z24_3 z24_4 z24_5 z24_6 z24_7 z24_8 z24_9 y24_0 y24_1 y24_2 y24_3 y24_4 y24_5 y24_6 y24_7 y24_8 y24_9); (try clear z29_0 z29_1 z29_2 z29_3 z29_4 z29_5 z29_6 z29_7 z29_8 z29_9 y29_0 y29_1 y29_2 y29_3 y29_4 y29_5 y29_6 y29_7 y29_8 y29_9)
  obtain ⟨kq, x359004_7, HA, HJ7, HO_3, BK349, BK358, HB⟩ := hcut
  cases kq with
  | zero => exact absurd HA.out (by simp [pantryref04_Of.j0])
  | succ kj7 =>
   have H := HA.out
   clear HA
   simp only [pantryref04_Of.j0] at H
   obtain ⟨t361, A30, H⟩ := bS_ H
   try dsimp only at H
   obtain ⟨t362, A31, H⟩ := bS_ H
   try dsimp only at H
   obtain ⟨t363, A32, H⟩ := bS_ H
   try dsimp only at H
   obtain ⟨t364, A33, H⟩ := bS_ H
   try dsimp only at H
   obtain ⟨⟨t365, t366⟩, A34, H⟩ := bS_ H
   try dsimp only at H
   by_cases c35 : t366 = 0
   ·
    rw [if_pos c35] at H
    have c35b0 : (t366 == 0) = true := beq_iff_eq.mpr c35
    have c35b1 : (t366 != 0) = false := bne_eq_false_iff_eq.mpr c35
    clear c35
    obtain ⟨t367, A36, H⟩ := bS_ H
    try dsimp only at H
    by_cases c37 : t367 = true
    ·
     subst c37
     rw [if_pos rfl] at H
     simp only [Option.some.injEq, Prod.mk.injEq] at H
     obtain ⟨rfl, rfl, rfl, rfl, rfl, rfl, rfl, rfl, rfl, rfl⟩ := H
     go_wp2_with (first | ((with_reducible refine gate_callee (f := 57) rfl ?_); refine goesL_ (some 28) rfl rfl Tryz.func57 (by kernel_rfl) rfl #[.slice Ao11 t350.length co11, .string (⟨#[109, 97, 120, 45, 97, 103, 101]⟩ : ByteArray), .int .i64 0, .int .i64 0, .bool false] rfl T1_ ?_; (with_reducible refine (pantryref04_told.calls kj7 _ _ t350 (⟨#[109, 97, 120, 45, 97, 103, 101]⟩ : ByteArray) 0 0 false t361 _ ?side1 ?side2 A30.out).mono ?_); (case side1 => exact C1_ ((Kd.R_reads' HO_3.out).2.2)); (case side2 => exact (Kd.R_reads' HO_3.out).2.1); rintro e w38 ⟨rfl, hb⟩; refine ⟨_, rfl, ?_⟩; replace HO_3 := Aside0.mk (Kd.R_below (R1_ HO_3.out) hb); replace BK349 := yB_ BK349 hb; replace BK358 := yB_ BK358 hb; replace HB := y2_ hb; (try clear hb); have hnb39 := NB358_349.out; have hnc39 := NB349_358.out; obtain ⟨z40_0, z40_1, z40_2, z40_3, z40_4, z40_5, z40_6, z40_7, z40_8, z40_9, y40_0, y40_1, y40_2, y40_3, y40_4, y40_5, y40_6, y40_7, y40_8, y40_9⟩ := cz10_ BK358.out) | ((with_reducible refine gate_callee (f := 57) rfl ?_); refine goesL_ (some 31) rfl rfl Tryz.func57 (by kernel_rfl) rfl #[.slice Ao11 t350.length co11, .string (⟨#[115, 45, 109, 97, 120, 97, 103, 101]⟩ : ByteArray), .int .i64 0, .int .i64 0, .bool false] rfl T1_ ?_; (with_reducible refine (pantryref04_told.calls kj7 _ _ t350 (⟨#[115, 45, 109, 97, 120, 97, 103, 101]⟩ : ByteArray) 0 0 false t362 _ ?side1 ?side2 A31.out).mono ?_); (case side1 => refine (Kd.R_reads' (e := 9) (base := w.heap.size) (ok := fun k_ => True) (n := t350.length) (c := co11) ?_).2.2; exact (by refine R1_ ?_; exact (Kd.R_mono (Kd.R_far (p := ⟨gb358, 6, none⟩) (Kd.R_types HO_3.out BK358.out (by decide)) (fun _ hk => hk.2) (.int .i64 t361)) (fun _ h_ => h_.1)))); (case side2 => exact (Kd.R_reads' HO_3.out).2.1); rintro e w41 ⟨rfl, hb⟩; refine ⟨_, rfl, ?_⟩; replace HO_3 := Aside0.mk (Kd.R_below (by refine R1_ ?_; exact (Kd.R_mono (Kd.R_far (p := ⟨gb358, 6, none⟩) (Kd.R_types HO_3.out BK358.out (by decide)) (fun _ hk => hk.2) (.int .i64 t361)) (fun _ h_ => h_.1))) hb); replace BK349 := Aside0.mk (blk_below (g := gb349) (o := .cells #[.bool false, .bool false, .bool false, .bool false, .bool false, .bool false, .int .i64 0, .int .i64 0, .int .i64 0, .int .i64 0] 64 (0, 0)) (G1_ BK349.out) hb); replace BK358 := Aside0.mk (blk_below (g := gb358) (o := .cells #[.bool t353, .bool t354, .bool t355, .bool t356, .bool x359004_7, .bool t357, .int .i64 t361, .int .i64 0, .int .i64 0, .int .i64 0] 64 (0, 0)) (G1_ BK358.out) hb); replace HB := y2_ hb; (try clear hb); (try clear hk); obtain ⟨z42_0, z42_1, z42_2, z42_3, z42_4, z42_5, z42_6, z42_7, z42_8, z42_9, y42_0, y42_1, y42_2, y42_3, y42_4, y42_5, y42_6, y42_7, y42_8, y42_9⟩ := cz10_ BK358.out) | ((with_reducible refine gate_callee (f := 57) rfl ?_); refine goesL_ (some 34) rfl rfl Tryz.func57 (by kernel_rfl) rfl #[.slice Ao11 t350.length co11, .string (⟨#[109, 105, 110, 45, 102, 114, 101, 115, 104]⟩ : ByteArray), .int .i64 2147483648, .int .i64 2147483648, .bool true] rfl T1_ ?_; (with_reducible refine (pantryref04_told.calls kj7 _ _ t350 (⟨#[109, 105, 110, 45, 102, 114, 101, 115, 104]⟩ : ByteArray) 2147483648 2147483648 true t363 _ ?side1 ?side2 A32.out).mono ?_); (case side1 => refine (Kd.R_reads' (e := 9) (base := w.heap.size) (ok := fun k_ => True) (n := t350.length) (c := co11) ?_).2.2; exact (by refine R1_ ?_; exact (Kd.R_mono (Kd.R_far (p := ⟨gb358, 7, none⟩) (Kd.R_types HO_3.out BK358.out (by decide)) (fun _ hk => hk.2) (.int .i64 t362)) (fun _ h_ => h_.1)))); (case side2 => exact (Kd.R_reads' HO_3.out).2.1); rintro e w43 ⟨rfl, hb⟩; refine ⟨_, rfl, ?_⟩; replace HO_3 := Aside0.mk (Kd.R_below (by refine R1_ ?_; exact (Kd.R_mono (Kd.R_far (p := ⟨gb358, 7, none⟩) (Kd.R_types HO_3.out BK358.out (by decide)) (fun _ hk => hk.2) (.int .i64 t362)) (fun _ h_ => h_.1))) hb); replace BK349 := Aside0.mk (blk_below (g := gb349) (o := .cells #[.bool false, .bool false, .bool false, .bool false, .bool false, .bool false, .int .i64 0, .int .i64 0, .int .i64 0, .int .i64 0] 64 (0, 0)) (G1_ BK349.out) hb); replace BK358 := Aside0.mk (blk_below (g := gb358) (o := .cells #[.bool t353, .bool t354, .bool t355, .bool t356, .bool x359004_7, .bool t357, .int .i64 t361, .int .i64 t362, .int .i64 0, .int .i64 0] 64 (0, 0)) (G1_ BK358.out) hb); replace HB := y2_ hb; (try clear hb); (try clear hk); obtain ⟨z44_0, z44_1, z44_2, z44_3, z44_4, z44_5, z44_6, z44_7, z44_8, z44_9, y44_0, y44_1, y44_2, y44_3, y44_4, y44_5, y44_6, y44_7, y44_8, y44_9⟩ := cz10_ BK358.out) | ((with_reducible refine gate_callee (f := 57) rfl ?_); refine goesL_ (some 37) rfl rfl Tryz.func57 (by kernel_rfl) rfl #[.slice Ao11 t350.length co11, .string (⟨#[109, 97, 120, 45, 115, 116, 97, 108, 101]⟩ : ByteArray), .int .i64 0, .int .i64 2147483648, .bool false] rfl T1_ ?_; (with_reducible refine (pantryref04_told.calls kj7 _ _ t350 (⟨#[109, 97, 120, 45, 115, 116, 97, 108, 101]⟩ : ByteArray) 0 2147483648 false t364 _ ?side1 ?side2 A33.out).mono ?_); (case side1 => refine (Kd.R_reads' (e := 9) (base := w.heap.size) (ok := fun k_ => True) (n := t350.length) (c := co11) ?_).2.2; exact (by refine R1_ ?_; exact (Kd.R_mono (Kd.R_far (p := ⟨gb358, 8, none⟩) (Kd.R_types HO_3.out BK358.out (by decide)) (fun _ hk => hk.2) (.int .i64 t363)) (fun _ h_ => h_.1)))); (case side2 => exact (Kd.R_reads' HO_3.out).2.1); rintro e w45 ⟨rfl, hb⟩; refine ⟨_, rfl, ?_⟩; replace HO_3 := Aside0.mk (Kd.R_below (by refine R1_ ?_; exact (Kd.R_mono (Kd.R_far (p := ⟨gb358, 8, none⟩) (Kd.R_types HO_3.out BK358.out (by decide)) (fun _ hk => hk.2) (.int .i64 t363)) (fun _ h_ => h_.1))) hb); replace BK349 := Aside0.mk (blk_below (g := gb349) (o := .cells #[.bool false, .bool false, .bool false, .bool false, .bool false, .bool false, .int .i64 0, .int .i64 0, .int .i64 0, .int .i64 0] 64 (0, 0)) (G1_ BK349.out) hb); replace BK358 := Aside0.mk (blk_below (g := gb358) (o := .cells #[.bool t353, .bool t354, .bool t355, .bool t356, .bool x359004_7, .bool t357, .int .i64 t361, .int .i64 t362, .int .i64 t363, .int .i64 0] 64 (0, 0)) (G1_ BK358.out) hb); replace HB := y2_ hb; (try clear hb); (try clear hk); obtain ⟨z46_0, z46_1, z46_2, z46_3, z46_4, z46_5, z46_6, z46_7, z46_8, z46_9, y46_0, y46_1, y46_2, y46_3, y46_4, y46_5, y46_6, y46_7, y46_8, y46_9⟩ := cz10_ BK358.out) | ((with_reducible refine gate_callee (f := 32) rfl ?_); refine goesL_ (some 41) rfl rfl Tryz.func32 (by kernel_rfl) rfl #[.slice A0 l0.length c0, .string (⟨#[99, 97, 99, 104, 101, 45, 99, 111, 110, 116, 114, 111, 108]⟩ : ByteArray)] rfl T1_ ?_; (with_reducible refine (pantryref03_Get.calls kj7 _ _ l0 (⟨#[99, 97, 99, 104, 101, 45, 99, 111, 110, 116, 114, 111, 108]⟩ : ByteArray) t365 t366 _ ?side1 ?side2 A34.out).mono ?_); (case side1 => exact Kd.C_below HR0.out W2_); (case side2 => exact HC0.out); rintro e w47 ⟨rfl, hb⟩; refine ⟨_, rfl, ?_⟩; replace HO_3 := Aside0.mk (Kd.R_below (by refine R1_ ?_; exact (Kd.R_mono (Kd.R_far (p := ⟨gb358, 9, none⟩) (Kd.R_types HO_3.out BK358.out (by decide)) (fun _ hk => hk.2) (.int .i64 t364)) (fun _ h_ => h_.1))) hb); replace BK349 := Aside0.mk (blk_below (g := gb349) (o := .cells #[.bool false, .bool false, .bool false, .bool false, .bool false, .bool false, .int .i64 0, .int .i64 0, .int .i64 0, .int .i64 0] 64 (0, 0)) (G1_ BK349.out) hb); replace BK358 := Aside0.mk (blk_below (g := gb358) (o := .cells #[.bool t353, .bool t354, .bool t355, .bool t356, .bool x359004_7, .bool t357, .int .i64 t361, .int .i64 t362, .int .i64 t363, .int .i64 t364] 64 (0, 0)) (G1_ BK358.out) hb); replace HB := y2_ hb; (try clear hb); (try clear hk)) | (go_at_call 58; (with_reducible refine (pantryref03_Has.calls kj7 _ _ l0 (⟨#[112, 114, 97, 103, 109, 97]⟩ : ByteArray) (⟨#[110, 111, 45, 99, 97, 99, 104, 101]⟩ : ByteArray) true _ ?side1 ?side2 A36.out).mono ?_); (case side1 => exact C1_ ((Kd.C_below HR0.out HB.out))); (case side2 => exact HC0.out); rintro e w48 ⟨rfl, hb⟩; replace HO_3 := Aside0.mk (Kd.R_below (R1_ HO_3.out) hb); replace BK349 := yB_ BK349 hb; replace BK358 := yB_ BK358 hb; replace HB := y2_ hb; (try clear hb); obtain ⟨z49_0, z49_1, z49_2, z49_3, z49_4, z49_5, z49_6, z49_7, z49_8, z49_9, y49_0, y49_1, y49_2, y49_3, y49_4, y49_5, y49_6, y49_7, y49_8, y49_9⟩ := cz10_ BK358.out; obtain ⟨z50_0, z50_1, z50_2, z50_3, z50_4, z50_5, z50_6, z50_7, z50_8, z50_9, y50_0, y50_1, y50_2, y50_3, y50_4, y50_5, y50_6, y50_7, y50_8, y50_9⟩ := cz10_ BK349.out))
     refine bodyPost_ret (results_cell_row rfl _ _ gb349 64 #[.bool t353, .bool true, .bool t355, .bool t356, .bool x359004_7, .bool t357, .int .i64 t361, .int .i64 t362, .int .i64 t363, .int .i64 t364] (0, 0) _ rfl (G1_ BK349.out) Tryz.underlying64 rfl (by kernel_rfl)) rfl ?_
     exact ⟨E1_, W2_⟩
    ·
     replace c37 := Bool.eq_false_iff.mpr c37
     subst c37
     rw [if_neg (show ¬ (false = true) by decide)] at H
     simp only [Option.some.injEq, Prod.mk.injEq] at H
     obtain ⟨rfl, rfl, rfl, rfl, rfl, rfl, rfl, rfl, rfl, rfl⟩ := H
     go_wp2_with (first | ((with_reducible refine gate_callee (f := 57) rfl ?_); refine goesL_ (some 28) rfl rfl Tryz.func57 (by kernel_rfl) rfl #[.slice Ao11 t350.length co11, .string (⟨#[109, 97, 120, 45, 97, 103, 101]⟩ : ByteArray), .int .i64 0, .int .i64 0, .bool false] rfl T1_ ?_; (with_reducible refine (pantryref04_told.calls kj7 _ _ t350 (⟨#[109, 97, 120, 45, 97, 103, 101]⟩ : ByteArray) 0 0 false t361 _ ?side1 ?side2 A30.out).mono ?_); (case side1 => exact C1_ ((Kd.R_reads' HO_3.out).2.2)); (case side2 => exact (Kd.R_reads' HO_3.out).2.1); rintro e w51 ⟨rfl, hb⟩; refine ⟨_, rfl, ?_⟩; replace HO_3 := Aside0.mk (Kd.R_below (R1_ HO_3.out) hb); replace BK349 := yB_ BK349 hb; replace BK358 := yB_ BK358 hb; replace HB := y2_ hb; (try clear hb); have hnb52 := NB358_349.out; have hnc52 := NB349_358.out; obtain ⟨z53_0, z53_1, z53_2, z53_3, z53_4, z53_5, z53_6, z53_7, z53_8, z53_9, y53_0, y53_1, y53_2, y53_3, y53_4, y53_5, y53_6, y53_7, y53_8, y53_9⟩ := cz10_ BK358.out) | ((with_reducible refine gate_callee (f := 57) rfl ?_); refine goesL_ (some 31) rfl rfl Tryz.func57 (by kernel_rfl) rfl #[.slice Ao11 t350.length co11, .string (⟨#[115, 45, 109, 97, 120, 97, 103, 101]⟩ : ByteArray), .int .i64 0, .int .i64 0, .bool false] rfl T1_ ?_; (with_reducible refine (pantryref04_told.calls kj7 _ _ t350 (⟨#[115, 45, 109, 97, 120, 97, 103, 101]⟩ : ByteArray) 0 0 false t362 _ ?side1 ?side2 A31.out).mono ?_); (case side1 => refine (Kd.R_reads' (e := 9) (base := w.heap.size) (ok := fun k_ => True) (n := t350.length) (c := co11) ?_).2.2; exact (by refine R1_ ?_; exact (Kd.R_mono (Kd.R_far (p := ⟨gb358, 6, none⟩) (Kd.R_types HO_3.out BK358.out (by decide)) (fun _ hk => hk.2) (.int .i64 t361)) (fun _ h_ => h_.1)))); (case side2 => exact (Kd.R_reads' HO_3.out).2.1); rintro e w54 ⟨rfl, hb⟩; refine ⟨_, rfl, ?_⟩; replace HO_3 := Aside0.mk (Kd.R_below (by refine R1_ ?_; exact (Kd.R_mono (Kd.R_far (p := ⟨gb358, 6, none⟩) (Kd.R_types HO_3.out BK358.out (by decide)) (fun _ hk => hk.2) (.int .i64 t361)) (fun _ h_ => h_.1))) hb); replace BK349 := Aside0.mk (blk_below (g := gb349) (o := .cells #[.bool false, .bool false, .bool false, .bool false, .bool false, .bool false, .int .i64 0, .int .i64 0, .int .i64 0, .int .i64 0] 64 (0, 0)) (G1_ BK349.out) hb); replace BK358 := Aside0.mk (blk_below (g := gb358) (o := .cells #[.bool t353, .bool t354, .bool t355, .bool t356, .bool x359004_7, .bool t357, .int .i64 t361, .int .i64 0, .int .i64 0, .int .i64 0] 64 (0, 0)) (G1_ BK358.out) hb); replace HB := y2_ hb; (try clear hb); (try clear hk); obtain ⟨z55_0, z55_1, z55_2, z55_3, z55_4, z55_5, z55_6, z55_7, z55_8, z55_9, y55_0, y55_1, y55_2, y55_3, y55_4, y55_5, y55_6, y55_7, y55_8, y55_9⟩ := cz10_ BK358.out) | ((with_reducible refine gate_callee (f := 57) rfl ?_); refine goesL_ (some 34) rfl rfl Tryz.func57 (by kernel_rfl) rfl #[.slice Ao11 t350.length co11, .string (⟨#[109, 105, 110, 45, 102, 114, 101, 115, 104]⟩ : ByteArray), .int .i64 2147483648, .int .i64 2147483648, .bool true] rfl T1_ ?_; (with_reducible refine (pantryref04_told.calls kj7 _ _ t350 (⟨#[109, 105, 110, 45, 102, 114, 101, 115, 104]⟩ : ByteArray) 2147483648 2147483648 true t363 _ ?side1 ?side2 A32.out).mono ?_); (case side1 => refine (Kd.R_reads' (e := 9) (base := w.heap.size) (ok := fun k_ => True) (n := t350.length) (c := co11) ?_).2.2; exact (by refine R1_ ?_; exact (Kd.R_mono (Kd.R_far (p := ⟨gb358, 7, none⟩) (Kd.R_types HO_3.out BK358.out (by decide)) (fun _ hk => hk.2) (.int .i64 t362)) (fun _ h_ => h_.1)))); (case side2 => exact (Kd.R_reads' HO_3.out).2.1); rintro e w56 ⟨rfl, hb⟩; refine ⟨_, rfl, ?_⟩; replace HO_3 := Aside0.mk (Kd.R_below (by refine R1_ ?_; exact (Kd.R_mono (Kd.R_far (p := ⟨gb358, 7, none⟩) (Kd.R_types HO_3.out BK358.out (by decide)) (fun _ hk => hk.2) (.int .i64 t362)) (fun _ h_ => h_.1))) hb); replace BK349 := Aside0.mk (blk_below (g := gb349) (o := .cells #[.bool false, .bool false, .bool false, .bool false, .bool false, .bool false, .int .i64 0, .int .i64 0, .int .i64 0, .int .i64 0] 64 (0, 0)) (G1_ BK349.out) hb); replace BK358 := Aside0.mk (blk_below (g := gb358) (o := .cells #[.bool t353, .bool t354, .bool t355, .bool t356, .bool x359004_7, .bool t357, .int .i64 t361, .int .i64 t362, .int .i64 0, .int .i64 0] 64 (0, 0)) (G1_ BK358.out) hb); replace HB := y2_ hb; (try clear hb); (try clear hk); obtain ⟨z57_0, z57_1, z57_2, z57_3, z57_4, z57_5, z57_6, z57_7, z57_8, z57_9, y57_0, y57_1, y57_2, y57_3, y57_4, y57_5, y57_6, y57_7, y57_8, y57_9⟩ := cz10_ BK358.out) | ((with_reducible refine gate_callee (f := 57) rfl ?_); refine goesL_ (some 37) rfl rfl Tryz.func57 (by kernel_rfl) rfl #[.slice Ao11 t350.length co11, .string (⟨#[109, 97, 120, 45, 115, 116, 97, 108, 101]⟩ : ByteArray), .int .i64 0, .int .i64 2147483648, .bool false] rfl T1_ ?_; (with_reducible refine (pantryref04_told.calls kj7 _ _ t350 (⟨#[109, 97, 120, 45, 115, 116, 97, 108, 101]⟩ : ByteArray) 0 2147483648 false t364 _ ?side1 ?side2 A33.out).mono ?_); (case side1 => refine (Kd.R_reads' (e := 9) (base := w.heap.size) (ok := fun k_ => True) (n := t350.length) (c := co11) ?_).2.2; exact (by refine R1_ ?_; exact (Kd.R_mono (Kd.R_far (p := ⟨gb358, 8, none⟩) (Kd.R_types HO_3.out BK358.out (by decide)) (fun _ hk => hk.2) (.int .i64 t363)) (fun _ h_ => h_.1)))); (case side2 => exact (Kd.R_reads' HO_3.out).2.1); rintro e w58 ⟨rfl, hb⟩; refine ⟨_, rfl, ?_⟩; replace HO_3 := Aside0.mk (Kd.R_below (by refine R1_ ?_; exact (Kd.R_mono (Kd.R_far (p := ⟨gb358, 8, none⟩) (Kd.R_types HO_3.out BK358.out (by decide)) (fun _ hk => hk.2) (.int .i64 t363)) (fun _ h_ => h_.1))) hb); replace BK349 := Aside0.mk (blk_below (g := gb349) (o := .cells #[.bool false, .bool false, .bool false, .bool false, .bool false, .bool false, .int .i64 0, .int .i64 0, .int .i64 0, .int .i64 0] 64 (0, 0)) (G1_ BK349.out) hb); replace BK358 := Aside0.mk (blk_below (g := gb358) (o := .cells #[.bool t353, .bool t354, .bool t355, .bool t356, .bool x359004_7, .bool t357, .int .i64 t361, .int .i64 t362, .int .i64 t363, .int .i64 0] 64 (0, 0)) (G1_ BK358.out) hb); replace HB := y2_ hb; (try clear hb); (try clear hk); obtain ⟨z59_0, z59_1, z59_2, z59_3, z59_4, z59_5, z59_6, z59_7, z59_8, z59_9, y59_0, y59_1, y59_2, y59_3, y59_4, y59_5, y59_6, y59_7, y59_8, y59_9⟩ := cz10_ BK358.out) | ((with_reducible refine gate_callee (f := 32) rfl ?_); refine goesL_ (some 41) rfl rfl Tryz.func32 (by kernel_rfl) rfl #[.slice A0 l0.length c0, .string (⟨#[99, 97, 99, 104, 101, 45, 99, 111, 110, 116, 114, 111, 108]⟩ : ByteArray)] rfl T1_ ?_; (with_reducible refine (pantryref03_Get.calls kj7 _ _ l0 (⟨#[99, 97, 99, 104, 101, 45, 99, 111, 110, 116, 114, 111, 108]⟩ : ByteArray) t365 t366 _ ?side1 ?side2 A34.out).mono ?_); (case side1 => exact Kd.C_below HR0.out W2_); (case side2 => exact HC0.out); rintro e w60 ⟨rfl, hb⟩; refine ⟨_, rfl, ?_⟩; replace HO_3 := Aside0.mk (Kd.R_below (by refine R1_ ?_; exact (Kd.R_mono (Kd.R_far (p := ⟨gb358, 9, none⟩) (Kd.R_types HO_3.out BK358.out (by decide)) (fun _ hk => hk.2) (.int .i64 t364)) (fun _ h_ => h_.1))) hb); replace BK349 := Aside0.mk (blk_below (g := gb349) (o := .cells #[.bool false, .bool false, .bool false, .bool false, .bool false, .bool false, .int .i64 0, .int .i64 0, .int .i64 0, .int .i64 0] 64 (0, 0)) (G1_ BK349.out) hb); replace BK358 := Aside0.mk (blk_below (g := gb358) (o := .cells #[.bool t353, .bool t354, .bool t355, .bool t356, .bool x359004_7, .bool t357, .int .i64 t361, .int .i64 t362, .int .i64 t363, .int .i64 t364] 64 (0, 0)) (G1_ BK358.out) hb); replace HB := y2_ hb; (try clear hb); (try clear hk)) | (go_at_call 58; (with_reducible refine (pantryref03_Has.calls kj7 _ _ l0 (⟨#[112, 114, 97, 103, 109, 97]⟩ : ByteArray) (⟨#[110, 111, 45, 99, 97, 99, 104, 101]⟩ : ByteArray) false _ ?side1 ?side2 A36.out).mono ?_); (case side1 => exact C1_ ((Kd.C_below HR0.out HB.out))); (case side2 => exact HC0.out); rintro e w61 ⟨rfl, hb⟩; replace HO_3 := Aside0.mk (Kd.R_below (R1_ HO_3.out) hb); replace BK349 := yB_ BK349 hb; replace BK358 := yB_ BK358 hb; replace HB := y2_ hb; (try clear hb); obtain ⟨z62_0, z62_1, z62_2, z62_3, z62_4, z62_5, z62_6, z62_7, z62_8, z62_9, y62_0, y62_1, y62_2, y62_3, y62_4, y62_5, y62_6, y62_7, y62_8, y62_9⟩ := cz10_ BK358.out; obtain ⟨z63_0, z63_1, z63_2, z63_3, z63_4, z63_5, z63_6, z63_7, z63_8, z63_9, y63_0, y63_1, y63_2, y63_3, y63_4, y63_5, y63_6, y63_7, y63_8, y63_9⟩ := cz10_ BK349.out))
     refine bodyPost_ret (results_cell_row rfl _ _ gb349 64 #[.bool t353, .bool t354, .bool t355, .bool t356, .bool x359004_7, .bool t357, .int .i64 t361, .int .i64 t362, .int .i64 t363, .int .i64 t364] (0, 0) _ rfl (G1_ BK349.out) Tryz.underlying64 rfl (by kernel_rfl)) rfl ?_
     exact ⟨E1_, W2_⟩
   ·
    rw [if_neg c35] at H
    have c35b0 : (t366 == 0) = false := beq_eq_false_iff_ne.mpr c35
    have c35b1 : (t366 != 0) = true := bne_iff_ne.mpr c35
    simp only [Option.some.injEq, Prod.mk.injEq] at H
    obtain ⟨rfl, rfl, rfl, rfl, rfl, rfl, rfl, rfl, rfl, rfl⟩ := H
    go_wp2_with (first | ((with_reducible refine gate_callee (f := 57) rfl ?_); refine goesL_ (some 28) rfl rfl Tryz.func57 (by kernel_rfl) rfl #[.slice Ao11 t350.length co11, .string (⟨#[109, 97, 120, 45, 97, 103, 101]⟩ : ByteArray), .int .i64 0, .int .i64 0, .bool false] rfl T1_ ?_; (with_reducible refine (pantryref04_told.calls kj7 _ _ t350 (⟨#[109, 97, 120, 45, 97, 103, 101]⟩ : ByteArray) 0 0 false t361 _ ?side1 ?side2 A30.out).mono ?_); (case side1 => exact C1_ ((Kd.R_reads' HO_3.out).2.2)); (case side2 => exact (Kd.R_reads' HO_3.out).2.1); rintro e w64 ⟨rfl, hb⟩; refine ⟨_, rfl, ?_⟩; replace HO_3 := Aside0.mk (Kd.R_below (R1_ HO_3.out) hb); replace BK349 := yB_ BK349 hb; replace BK358 := yB_ BK358 hb; replace HB := y2_ hb; (try clear hb); have hnb65 := NB358_349.out; have hnc65 := NB349_358.out; obtain ⟨z66_0, z66_1, z66_2, z66_3, z66_4, z66_5, z66_6, z66_7, z66_8, z66_9, y66_0, y66_1, y66_2, y66_3, y66_4, y66_5, y66_6, y66_7, y66_8, y66_9⟩ := cz10_ BK358.out) | ((with_reducible refine gate_callee (f := 57) rfl ?_); refine goesL_ (some 31) rfl rfl Tryz.func57 (by kernel_rfl) rfl #[.slice Ao11 t350.length co11, .string (⟨#[115, 45, 109, 97, 120, 97, 103, 101]⟩ : ByteArray), .int .i64 0, .int .i64 0, .bool false] rfl T1_ ?_; (with_reducible refine (pantryref04_told.calls kj7 _ _ t350 (⟨#[115, 45, 109, 97, 120, 97, 103, 101]⟩ : ByteArray) 0 0 false t362 _ ?side1 ?side2 A31.out).mono ?_); (case side1 => refine (Kd.R_reads' (e := 9) (base := w.heap.size) (ok := fun k_ => True) (n := t350.length) (c := co11) ?_).2.2; exact (by refine R1_ ?_; exact (Kd.R_mono (Kd.R_far (p := ⟨gb358, 6, none⟩) (Kd.R_types HO_3.out BK358.out (by decide)) (fun _ hk => hk.2) (.int .i64 t361)) (fun _ h_ => h_.1)))); (case side2 => exact (Kd.R_reads' HO_3.out).2.1); rintro e w67 ⟨rfl, hb⟩; refine ⟨_, rfl, ?_⟩; replace HO_3 := Aside0.mk (Kd.R_below (by refine R1_ ?_; exact (Kd.R_mono (Kd.R_far (p := ⟨gb358, 6, none⟩) (Kd.R_types HO_3.out BK358.out (by decide)) (fun _ hk => hk.2) (.int .i64 t361)) (fun _ h_ => h_.1))) hb); replace BK349 := Aside0.mk (blk_below (g := gb349) (o := .cells #[.bool false, .bool false, .bool false, .bool false, .bool false, .bool false, .int .i64 0, .int .i64 0, .int .i64 0, .int .i64 0] 64 (0, 0)) (G1_ BK349.out) hb); replace BK358 := Aside0.mk (blk_below (g := gb358) (o := .cells #[.bool t353, .bool t354, .bool t355, .bool t356, .bool x359004_7, .bool t357, .int .i64 t361, .int .i64 0, .int .i64 0, .int .i64 0] 64 (0, 0)) (G1_ BK358.out) hb); replace HB := y2_ hb; (try clear hb); (try clear hk); obtain ⟨z68_0, z68_1, z68_2, z68_3, z68_4, z68_5, z68_6, z68_7, z68_8, z68_9, y68_0, y68_1, y68_2, y68_3, y68_4, y68_5, y68_6, y68_7, y68_8, y68_9⟩ := cz10_ BK358.out) | ((with_reducible refine gate_callee (f := 57) rfl ?_); refine goesL_ (some 34) rfl rfl Tryz.func57 (by kernel_rfl) rfl #[.slice Ao11 t350.length co11, .string (⟨#[109, 105, 110, 45, 102, 114, 101, 115, 104]⟩ : ByteArray), .int .i64 2147483648, .int .i64 2147483648, .bool true] rfl T1_ ?_; (with_reducible refine (pantryref04_told.calls kj7 _ _ t350 (⟨#[109, 105, 110, 45, 102, 114, 101, 115, 104]⟩ : ByteArray) 2147483648 2147483648 true t363 _ ?side1 ?side2 A32.out).mono ?_); (case side1 => refine (Kd.R_reads' (e := 9) (base := w.heap.size) (ok := fun k_ => True) (n := t350.length) (c := co11) ?_).2.2; exact (by refine R1_ ?_; exact (Kd.R_mono (Kd.R_far (p := ⟨gb358, 7, none⟩) (Kd.R_types HO_3.out BK358.out (by decide)) (fun _ hk => hk.2) (.int .i64 t362)) (fun _ h_ => h_.1)))); (case side2 => exact (Kd.R_reads' HO_3.out).2.1); rintro e w69 ⟨rfl, hb⟩; refine ⟨_, rfl, ?_⟩; replace HO_3 := Aside0.mk (Kd.R_below (by refine R1_ ?_; exact (Kd.R_mono (Kd.R_far (p := ⟨gb358, 7, none⟩) (Kd.R_types HO_3.out BK358.out (by decide)) (fun _ hk => hk.2) (.int .i64 t362)) (fun _ h_ => h_.1))) hb); replace BK349 := Aside0.mk (blk_below (g := gb349) (o := .cells #[.bool false, .bool false, .bool false, .bool false, .bool false, .bool false, .int .i64 0, .int .i64 0, .int .i64 0, .int .i64 0] 64 (0, 0)) (G1_ BK349.out) hb); replace BK358 := Aside0.mk (blk_below (g := gb358) (o := .cells #[.bool t353, .bool t354, .bool t355, .bool t356, .bool x359004_7, .bool t357, .int .i64 t361, .int .i64 t362, .int .i64 0, .int .i64 0] 64 (0, 0)) (G1_ BK358.out) hb); replace HB := y2_ hb; (try clear hb); (try clear hk); obtain ⟨z70_0, z70_1, z70_2, z70_3, z70_4, z70_5, z70_6, z70_7, z70_8, z70_9, y70_0, y70_1, y70_2, y70_3, y70_4, y70_5, y70_6, y70_7, y70_8, y70_9⟩ := cz10_ BK358.out) | ((with_reducible refine gate_callee (f := 57) rfl ?_); refine goesL_ (some 37) rfl rfl Tryz.func57 (by kernel_rfl) rfl #[.slice Ao11 t350.length co11, .string (⟨#[109, 97, 120, 45, 115, 116, 97, 108, 101]⟩ : ByteArray), .int .i64 0, .int .i64 2147483648, .bool false] rfl T1_ ?_; (with_reducible refine (pantryref04_told.calls kj7 _ _ t350 (⟨#[109, 97, 120, 45, 115, 116, 97, 108, 101]⟩ : ByteArray) 0 2147483648 false t364 _ ?side1 ?side2 A33.out).mono ?_); (case side1 => refine (Kd.R_reads' (e := 9) (base := w.heap.size) (ok := fun k_ => True) (n := t350.length) (c := co11) ?_).2.2; exact (by refine R1_ ?_; exact (Kd.R_mono (Kd.R_far (p := ⟨gb358, 8, none⟩) (Kd.R_types HO_3.out BK358.out (by decide)) (fun _ hk => hk.2) (.int .i64 t363)) (fun _ h_ => h_.1)))); (case side2 => exact (Kd.R_reads' HO_3.out).2.1); rintro e w71 ⟨rfl, hb⟩; refine ⟨_, rfl, ?_⟩; replace HO_3 := Aside0.mk (Kd.R_below (by refine R1_ ?_; exact (Kd.R_mono (Kd.R_far (p := ⟨gb358, 8, none⟩) (Kd.R_types HO_3.out BK358.out (by decide)) (fun _ hk => hk.2) (.int .i64 t363)) (fun _ h_ => h_.1))) hb); replace BK349 := Aside0.mk (blk_below (g := gb349) (o := .cells #[.bool false, .bool false, .bool false, .bool false, .bool false, .bool false, .int .i64 0, .int .i64 0, .int .i64 0, .int .i64 0] 64 (0, 0)) (G1_ BK349.out) hb); replace BK358 := Aside0.mk (blk_below (g := gb358) (o := .cells #[.bool t353, .bool t354, .bool t355, .bool t356, .bool x359004_7, .bool t357, .int .i64 t361, .int .i64 t362, .int .i64 t363, .int .i64 0] 64 (0, 0)) (G1_ BK358.out) hb); replace HB := y2_ hb; (try clear hb); (try clear hk); obtain ⟨z72_0, z72_1, z72_2, z72_3, z72_4, z72_5, z72_6, z72_7, z72_8, z72_9, y72_0, y72_1, y72_2, y72_3, y72_4, y72_5, y72_6, y72_7, y72_8, y72_9⟩ := cz10_ BK358.out) | ((with_reducible refine gate_callee (f := 32) rfl ?_); refine goesL_ (some 41) rfl rfl Tryz.func32 (by kernel_rfl) rfl #[.slice A0 l0.length c0, .string (⟨#[99, 97, 99, 104, 101, 45, 99, 111, 110, 116, 114, 111, 108]⟩ : ByteArray)] rfl T1_ ?_; (with_reducible refine (pantryref03_Get.calls kj7 _ _ l0 (⟨#[99, 97, 99, 104, 101, 45, 99, 111, 110, 116, 114, 111, 108]⟩ : ByteArray) t365 t366 _ ?side1 ?side2 A34.out).mono ?_); (case side1 => exact Kd.C_below HR0.out W2_); (case side2 => exact HC0.out); rintro e w73 ⟨rfl, hb⟩; refine ⟨_, rfl, ?_⟩; replace HO_3 := Aside0.mk (Kd.R_below (by refine R1_ ?_; exact (Kd.R_mono (Kd.R_far (p := ⟨gb358, 9, none⟩) (Kd.R_types HO_3.out BK358.out (by decide)) (fun _ hk => hk.2) (.int .i64 t364)) (fun _ h_ => h_.1))) hb); replace BK349 := Aside0.mk (blk_below (g := gb349) (o := .cells #[.bool false, .bool false, .bool false, .bool false, .bool false, .bool false, .int .i64 0, .int .i64 0, .int .i64 0, .int .i64 0] 64 (0, 0)) (G1_ BK349.out) hb); replace BK358 := Aside0.mk (blk_below (g := gb358) (o := .cells #[.bool t353, .bool t354, .bool t355, .bool t356, .bool x359004_7, .bool t357, .int .i64 t361, .int .i64 t362, .int .i64 t363, .int .i64 t364] 64 (0, 0)) (G1_ BK358.out) hb); replace HB := y2_ hb; (try clear hb); (try clear hk); obtain ⟨z74_0, z74_1, z74_2, z74_3, z74_4, z74_5, z74_6, z74_7, z74_8, z74_9, y74_0, y74_1, y74_2, y74_3, y74_4, y74_5, y74_6, y74_7, y74_8, y74_9⟩ := cz10_ BK358.out; obtain ⟨z75_0, z75_1, z75_2, z75_3, z75_4, z75_5, z75_6, z75_7, z75_8, z75_9, y75_0, y75_1, y75_2, y75_3, y75_4, y75_5, y75_6, y75_7, y75_8, y75_9⟩ := cz10_ BK349.out))
    refine bodyPost_ret (results_cell_row rfl _ _ gb349 64 #[.bool t353, .bool t354, .bool t355, .bool t356, .bool x359004_7, .bool t357, .int .i64 t361, .int .i64 t362, .int .i64 t363, .int .i64 t364] (0, 0) _ rfl (G1_ BK349.out) Tryz.underlying64 rfl (by kernel_rfl)) rfl ?_
    exact ⟨E1_, W2_⟩

/-! ### pantryref02_Leap: function 64 -/
def pantryref02_Leap.f (a0 : Int) : Option (Bool) := if (Int.tmod a0 400) = 0 then (some true) else (if (Int.tmod a0 4) = 0 then (some ((Int.tmod a0 100) != 0)) else (some false))
set_option maxHeartbeats 8000000 in
set_option maxRecDepth 100000 in
theorem pantryref02_Leap.calls (a0 : Int) (r : Bool) (w : World) (h : pantryref02_Leap.f a0 = some r) :
  Calls Tryz.prog 64 #[.int .i64 a0] w fun e w' => e = .returned (.bool r) ∧ Drawn0 w w' := by
 have H : (if (Int.tmod a0 400) = 0 then (some true) else (if (Int.tmod a0 4) = 0 then (some ((Int.tmod a0 100) != 0)) else (some false))) = some r := h
 clear h
 by_cases c2 : (Int.tmod a0 400) = 0
 ·
  rw [if_pos c2] at H
  have c2b0 : ((Int.tmod a0 400) == 0) = true := beq_iff_eq.mpr c2
  have c2b1 : ((Int.tmod a0 400) != 0) = false := bne_eq_false_iff_eq.mpr c2
  clear c2
  obtain rfl := Option.some.inj H
  go_enter Tryz.func64, Tryz.ntmps64
  go_wp2
  go_ret
  exact ⟨E2_, D1_⟩
 ·
  rw [if_neg c2] at H
  have c2b0 : ((Int.tmod a0 400) == 0) = false := beq_eq_false_iff_ne.mpr c2
  have c2b1 : ((Int.tmod a0 400) != 0) = true := bne_iff_ne.mpr c2
  by_cases c3 : (Int.tmod a0 4) = 0
  ·
   rw [if_pos c3] at H
   have c3b0 : ((Int.tmod a0 4) == 0) = true := beq_iff_eq.mpr c3
   have c3b1 : ((Int.tmod a0 4) != 0) = false := bne_eq_false_iff_eq.mpr c3
   clear c3
   obtain rfl := Option.some.inj H
   go_enter Tryz.func64, Tryz.ntmps64
   go_wp2
   go_ret
   exact ⟨E2_, D1_⟩
  ·
   rw [if_neg c3] at H
   have c3b0 : ((Int.tmod a0 4) == 0) = false := beq_eq_false_iff_ne.mpr c3
   have c3b1 : ((Int.tmod a0 4) != 0) = true := bne_iff_ne.mpr c3
   obtain rfl := Option.some.inj H
   go_enter Tryz.func64, Tryz.ntmps64
   go_wp2
   go_ret
   exact ⟨E2_, D1_⟩

/-! ### pantryref02_Days: function 65, by hand -/
def refTab : List Int := [0, 31, 28, 31, 30, 31, 30, 31, 31, 30, 31, 30, 31]
def pantryref02_Days.f (a0 a1 : Int) : Option Int :=
 if a0 < 1970 ∨ 9999 < a0 ∨ a1 < 1 ∨ 12 < a1 then some 0 else (pantryref02_Leap.f a0).bind fun b => if a1 = 2 ∧ b = true then some 29 else some (refTab.getD a1.toNat 0)
def refCells : Array Value := #[.int .i64 0, .int .i64 31, .int .i64 28, .int .i64 31, .int .i64 30, .int .i64 31, .int .i64 30, .int .i64 31, .int .i64 31, .int .i64 30, .int .i64 31, .int .i64 30, .int .i64 31]
theorem refCells_at (m : Nat) (h : m ≤ 12) : refCells[m]? = some (.int .i64 (refTab.getD m 0)) := by
 rcases m with _ | _ | _ | _ | _ | _ | _ | _ | _ | _ | _ | _ | _ | m
 any_goals rfl
 omega
set_option maxHeartbeats 2000000 in
set_option maxRecDepth 100000 in
theorem pantryref02_Days.calls (a0 a1 : Int) (r : Int) (w : World) (h : pantryref02_Days.f a0 a1 = some r) :
  Calls Tryz.prog 65 #[.int .i64 a0, .int .i64 a1] w fun e w' => e = .returned (.int .i64 r) ∧ Below w.heap.size w w' := by
 unfold pantryref02_Days.f at h
 by_cases ho : a0 < 1970 ∨ 9999 < a0 ∨ a1 < 1 ∨ 12 < a1
 ·
  rw [if_pos ho] at h
  obtain rfl := Option.some.inj h
  clear h
  by_cases c1 : a0 < 1970
  ·
   have b1 := decide_eq_true c1
   go_enter Tryz.func65, Tryz.ntmps65
   go_wp2
   go_ret
   exact ⟨rfl, Below.refl _ _⟩
  ·
   have b1 := decide_eq_false c1
   by_cases c2 : 9999 < a0
   ·
    have b2 := decide_eq_true c2
    go_enter Tryz.func65, Tryz.ntmps65
    go_wp2
    go_ret
    exact ⟨rfl, Below.refl _ _⟩
   ·
    have b2 := decide_eq_false c2
    by_cases c3 : a1 < 1
    ·
     have b3 := decide_eq_true c3
     go_enter Tryz.func65, Tryz.ntmps65
     go_wp2
     go_ret
     exact ⟨rfl, Below.refl _ _⟩
    ·
     have b3 := decide_eq_false c3
     have c4 : 12 < a1 := by omega
     have b4 := decide_eq_true c4
     go_enter Tryz.func65, Tryz.ntmps65
     go_wp2
     go_ret
     exact ⟨rfl, Below.refl _ _⟩
 ·
  rw [if_neg ho] at h
  cases hl : pantryref02_Leap.f a0 with
  | none => rw [hl] at h; simp at h
  | some b =>
   rw [hl] at h
   simp only [Option.bind_some] at h
   have HL := Aside0.mk hl
   clear hl
   have c1 : ¬ a0 < 1970 := by omega
   have c2 : ¬ 9999 < a0 := by omega
   have c3 : ¬ a1 < 1 := by omega
   have c4 : ¬ 12 < a1 := by omega
   have b1 := decide_eq_false c1
   have b2 := decide_eq_false c2
   have b3 := decide_eq_false c3
   have b4 := decide_eq_false c4
   obtain ⟨m, rfl⟩ := Int.eq_ofNat_of_zero_le (show 0 ≤ a1 by omega)
   have hm0 : 1 ≤ m := by omega
   have hm1 : m ≤ 12 := by omega
   clear ho c1 c2 c3 c4
   have HT := Aside0.mk h
   clear h
   obtain rfl | hm2 : m = 2 ∨ m ≠ 2 := by omega
   ·
    cases b with
    | true =>
     have hr := HT.out
     simp at hr
     subst hr
     go_enter Tryz.func65, Tryz.ntmps65
     go_wp2_with (go_at_call 64; refine (pantryref02_Leap.calls a0 true _ HL.out).mono ?_; rintro e w' ⟨rfl, ⟨nd, rfl⟩⟩)
     go_ret
     exact ⟨rfl, zN_ ((Below.refl _ _).alloc (Nat.le_refl _) _) nd⟩
    | false =>
     have hr := HT.out
     simp [refTab] at hr
     subst hr
     go_enter Tryz.func65, Tryz.ntmps65
     go_wp2_with (go_at_call 64; refine (pantryref02_Leap.calls a0 false _ HL.out).mono ?_; rintro e w' ⟨rfl, ⟨nd, rfl⟩⟩)
     go_ret
     exact ⟨rfl, zN_ ((Below.refl _ _).alloc (Nat.le_refl _) _) nd⟩
   ·
    have hne : ((m : Int) == 2) = false := by rw [beq_eq_false_iff_ne]; omega
    have hr : refTab.getD m 0 = r := by
     have := HT.out
     rw [if_neg (by omega)] at this
     simpa using this
    have hcell : (w.alloc (.cells #[.int .i64 0, .int .i64 31, .int .i64 28, .int .i64 31, .int .i64 30, .int .i64 31, .int .i64 30, .int .i64 31, .int .i64 31, .int .i64 30, .int .i64 31, .int .i64 30, .int .i64 31] 131)).cell? ⟨w.heap.size, m, none⟩ = some (.int .i64 r) := by
     rw [Lib.cell_of_heap (heap_alloc_new w _), ← hr]
     exact refCells_at m hm1
    clear hr HT HL
    go_enter Tryz.func65, Tryz.ntmps65
    go_wp2
    go_ret
    exact ⟨rfl, (Below.refl _ _).alloc (Nat.le_refl _) _⟩

/-! ### pantryref02_Split: function 43 -/
mutual
def pantryref02_Split.j1 : Nat → Int → Int → Int → Option (Int × Int × Int × Int)
 | 0, _, _, _ => none
 | k + 1, x0, x6, x7 => pantryref02_Split.l1 k x0 x6 x7 1
def pantryref02_Split.l1 : Nat → Int → Int → Int → Int → Option (Int × Int × Int × Int)
 | 0, _, _, _, _ => none
 | k + 1, x0, x6, x7, x9 => (pantryref02_Days.f x7 x9).bind fun t369 => (if x6 ≥ t369 then ((pantryref02_Days.f x7 x9).bind fun t370 => (pantryref02_Split.l1 k x0 (wrap64 (x6 - t370)) x7 (wrap64 (x9 + 1)))) else (some (x7, x9, wrap64 (x6 + 1), Int.tmod x0 86400)))
def pantryref02_Split.l0 : Nat → Int → Int → Int → Option (Int × Int × Int × Int)
 | 0, _, _, _ => none
 | k + 1, x0, x6, x7 => (pantryref02_Leap.f x7).bind fun t368 => (if t368 = true then (if x6 < 366 then (pantryref02_Split.j1 k x0 x6 x7) else (pantryref02_Split.l0 k x0 (wrap64 (x6 - 366)) (wrap64 (x7 + 1)))) else (if x6 < 365 then (pantryref02_Split.j1 k x0 x6 x7) else (pantryref02_Split.l0 k x0 (wrap64 (x6 - 365)) (wrap64 (x7 + 1)))))
end
def pantryref02_Split.f (k : Nat) (a0 : Int) : Option (Int × Int × Int × Int) := pantryref02_Split.l0 k a0 (wrap64 (Int.tdiv a0 86400)) 1970
theorem pantryref02_Split.mono_l : ∀ k, (∀ y0 y1 y2, LeO (pantryref02_Split.j1 k y0 y1 y2) (pantryref02_Split.j1 (k + 1) y0 y1 y2)) ∧ (∀ y0 y1 y2 y3, LeO (pantryref02_Split.l1 k y0 y1 y2 y3) (pantryref02_Split.l1 (k + 1) y0 y1 y2 y3)) ∧ (∀ y0 y1 y2, LeO (pantryref02_Split.l0 k y0 y1 y2) (pantryref02_Split.l0 (k + 1) y0 y1 y2))
 | 0 => ⟨fun _ _ _ r h => by simp [pantryref02_Split.j1] at h, fun _ _ _ _ r h => by simp [pantryref02_Split.l1] at h, fun _ _ _ r h => by simp [pantryref02_Split.l0] at h⟩
 | k + 1 => by
  obtain ⟨ih0, ih1, ih2⟩ := pantryref02_Split.mono_l k
  refine ⟨?_, ?_, ?_⟩
  ·
   intro y0 y1 y2
   unfold pantryref02_Split.j1
   repeat' (with_reducible first | exact ih0 _ _ _ | exact ih1 _ _ _ _ | exact ih2 _ _ _ | exact lR_ | refine LeO.ite ?_ ?_ | refine LeO.bind ?_ (fun _ => ?_))
  ·
   intro y0 y1 y2 y3
   unfold pantryref02_Split.l1
   repeat' (with_reducible first | exact ih0 _ _ _ | exact ih1 _ _ _ _ | exact ih2 _ _ _ | exact lR_ | refine LeO.ite ?_ ?_ | refine LeO.bind ?_ (fun _ => ?_))
  ·
   intro y0 y1 y2
   unfold pantryref02_Split.l0
   repeat' (with_reducible first | exact ih0 _ _ _ | exact ih1 _ _ _ _ | exact ih2 _ _ _ | exact lR_ | refine LeO.ite ?_ ?_ | refine LeO.bind ?_ (fun _ => ?_))
theorem pantryref02_Split.mono : ∀ a0 k, LeO (pantryref02_Split.f k a0) (pantryref02_Split.f (k + 1) a0) := by
 intro a0 k
 obtain ⟨ih0, ih1, ih2⟩ := pantryref02_Split.mono_l k
 unfold pantryref02_Split.f
 repeat' (with_reducible first | exact ih0 _ _ _ | exact ih1 _ _ _ _ | exact ih2 _ _ _ | exact lR_ | refine LeO.ite ?_ ?_ | refine LeO.bind ?_ (fun _ => ?_))
set_option maxHeartbeats 8000000 in
set_option maxRecDepth 100000 in
theorem pantryref02_Split.calls (k : Nat) (a0 : Int) (r1 : Int) (r2 : Int) (r3 : Int) (r4 : Int) (w : World) (h : pantryref02_Split.f k a0 = some (r1, r2, r3, r4)) :
  Calls Tryz.prog 43 #[.int .i64 a0] w fun e w' => e = .returned (.tuple #[.int .i64 r1, .int .i64 r2, .int .i64 r3, .int .i64 r4]) ∧ Below w.heap.size w w' := by
 have HB := Aside0.mk (Below.refl w.heap.size w)
 have H : (pantryref02_Split.l0 k a0 (wrap64 (Int.tdiv a0 86400)) 1970) = some (r1, r2, r3, r4) := h
 clear h
 have HC2 := Aside0.mk H
 clear H
 go_enter Tryz.func43, Tryz.ntmps43
 go_upto_block 0 with (fail)
 go_cut [6, 7] (fun v6 v7 wc => ∃ (kq : Nat) (x6_1 : Int) (x7_1 : Int), v6 = .int .i64 x6_1 ∧ v7 = .int .i64 x7_1 ∧ Aside0 (pantryref02_Split.j1 kq a0 x6_1 x7_1 = some (r1, r2, r3, r4)) ∧ Aside0 (kq ≤ k) ∧ Aside0 (Below w.heap.size w wc))
 case first =>
  have H := HC2.out
  clear HC2
  have H' := Aside0.mk H
  clear H
  go_wp2
  go_loopg [6, 7] k (fun kq v6 v7 w' => ∃ (x6_1 : Int) (x7_1 : Int), v6 = .int .i64 x6_1 ∧ v7 = .int .i64 x7_1 ∧ Aside0 (pantryref02_Split.l0 kq a0 x6_1 x7_1 = some (r1, r2, r3, r4)) ∧ Aside0 (kq ≤ k) ∧ Aside0 (Below w.heap.size w w'))
  case atStart => exact ⟨(wrap64 (Int.tdiv a0 86400)), (1970), E3_, E3_, H', ⟨Nat.le_refl _⟩, ⟨W1_⟩⟩
  case round =>
   clear H'
   obtain ⟨x6_1, x7_1, rfl, rfl, HA, HK1, HB⟩ := hrel
   cases gk with
   | zero => exact absurd HA.out (by simp [pantryref02_Split.l0])
   | succ k1 =>
    have H := HA.out
    clear HA
    simp only [pantryref02_Split.l0] at H
    obtain ⟨t368, A3, H⟩ := bS_ H
    try dsimp only at H
    by_cases c4 : t368 = true
    ·
     subst c4
     rw [if_pos rfl] at H
     by_cases c5 : x6_1 < 366
     ·
      rw [if_pos c5] at H
      have c5b0 : decide (x6_1 < 366) = true := decide_eq_true c5
      clear c5
      (first | rw [c5b0] | (simp only [i64_w, i32_w]; rw [c5b0]) | skip)
      have H' := Aside0.mk H
      clear H
      go_wp2_with (first | ((with_reducible refine gate_callee (f := 64) rfl ?_); refine goesL_ (some 13) rfl rfl Tryz.func64 (by kernel_rfl) rfl #[.int .i64 x7_1] rfl T1_ ?_; (with_reducible refine (pantryref02_Leap.calls x7_1 true _ A3.out).mono ?_); rintro e w' ⟨rfl, ⟨nd, rfl⟩⟩; refine ⟨_, rfl, ?_⟩))
      go_meet
      case rel => exact ⟨_, (x6_1), (x7_1), E3_, E3_, H', ⟨by have := HK1.out; first | omega | exact Nat.le_refl _⟩, ⟨W1_⟩⟩
     ·
      rw [if_neg c5] at H
      have c5b0 : decide (x6_1 < 366) = false := decide_eq_false c5
      clear c5
      (first | rw [c5b0] | (simp only [i64_w, i32_w]; rw [c5b0]) | skip)
      have H' := Aside0.mk H
      clear H
      go_wp2_with (first | ((with_reducible refine gate_callee (f := 64) rfl ?_); refine goesL_ (some 13) rfl rfl Tryz.func64 (by kernel_rfl) rfl #[.int .i64 x7_1] rfl T1_ ?_; (with_reducible refine (pantryref02_Leap.calls x7_1 true _ A3.out).mono ?_); rintro e w' ⟨rfl, ⟨nd, rfl⟩⟩; refine ⟨_, rfl, ?_⟩))
      go_roundg k1
      case measure => have := HK1.out; omega
      case rel => exact ⟨(wrap64 (x6_1 - 366)), (wrap64 (x7_1 + 1)), E3_, E3_, H', ⟨by have := HK1.out; omega⟩, ⟨W1_⟩⟩
    ·
     replace c4 := Bool.eq_false_iff.mpr c4
     subst c4
     rw [if_neg (show ¬ (false = true) by decide)] at H
     by_cases c6 : x6_1 < 365
     ·
      rw [if_pos c6] at H
      have c6b0 : decide (x6_1 < 365) = true := decide_eq_true c6
      clear c6
      have H' := Aside0.mk H
      clear H
      go_wp2_with (first | ((with_reducible refine gate_callee (f := 64) rfl ?_); refine goesL_ (some 13) rfl rfl Tryz.func64 (by kernel_rfl) rfl #[.int .i64 x7_1] rfl T1_ ?_; (with_reducible refine (pantryref02_Leap.calls x7_1 false _ A3.out).mono ?_); rintro e w' ⟨rfl, ⟨nd, rfl⟩⟩; refine ⟨_, rfl, ?_⟩))
      go_meet
      case rel => exact ⟨_, (x6_1), (x7_1), E3_, E3_, H', ⟨by have := HK1.out; first | omega | exact Nat.le_refl _⟩, ⟨W1_⟩⟩
     ·
      rw [if_neg c6] at H
      have c6b0 : decide (x6_1 < 365) = false := decide_eq_false c6
      clear c6
      have H' := Aside0.mk H
      clear H
      go_wp2_with (first | ((with_reducible refine gate_callee (f := 64) rfl ?_); refine goesL_ (some 13) rfl rfl Tryz.func64 (by kernel_rfl) rfl #[.int .i64 x7_1] rfl T1_ ?_; (with_reducible refine (pantryref02_Leap.calls x7_1 false _ A3.out).mono ?_); rintro e w' ⟨rfl, ⟨nd, rfl⟩⟩; refine ⟨_, rfl, ?_⟩))
      go_roundg k1
      case measure => have := HK1.out; omega
      case rel => exact ⟨(wrap64 (x6_1 - 365)), (wrap64 (x7_1 + 1)), E3_, E3_, H', ⟨by have := HK1.out; omega⟩, ⟨W1_⟩⟩
 case rest =>
  clear HC2
  (try clear c4); (try clear c5); (try clear c5b0); (try clear c6); (try clear c6b0)
  obtain ⟨kq, x6_1, x7_1, rfl, rfl, HA, HJ1, HB⟩ := hcut
  cases kq with
  | zero => exact absurd HA.out (by simp [pantryref02_Split.j1])
  | succ kj1 =>
   have H := HA.out
   clear HA
   simp only [pantryref02_Split.j1] at H
   have H' := Aside0.mk H
   clear H
   go_wp2
   go_loopg [6, 9] kj1 (fun kq v6 v9 w' => ∃ (x6_2 : Int) (x9_2 : Int), v6 = .int .i64 x6_2 ∧ v9 = .int .i64 x9_2 ∧ Aside0 (pantryref02_Split.l1 kq a0 x6_2 x7_1 x9_2 = some (r1, r2, r3, r4)) ∧ Aside0 (kq ≤ kj1) ∧ Aside0 (Below w.heap.size w w'))
   case atStart => exact ⟨(x6_1), (1), E3_, E3_, H', ⟨Nat.le_refl _⟩, ⟨W1_⟩⟩
   case round =>
    clear H'
    (try clear c4); (try clear c5); (try clear c5b0); (try clear c6); (try clear c6b0)
    obtain ⟨x6_2, x9_2, rfl, rfl, HA, HK2, HB⟩ := hrel
    cases gk with
    | zero => exact absurd HA.out (by simp [pantryref02_Split.l1])
    | succ k2 =>
     have H := HA.out
     clear HA
     simp only [pantryref02_Split.l1] at H
     obtain ⟨t369, A7, H⟩ := bS_ H
     try dsimp only at H
     by_cases c8 : x6_2 ≥ t369
     ·
      rw [if_pos c8] at H
      have c8b0 : decide (t369 ≤ x6_2) = true := decide_eq_true c8
      clear c8
      obtain ⟨t370, A9, H⟩ := bS_ H
      try dsimp only at H
      have H' := Aside0.mk H
      clear H
      go_wp2_with (first | ((with_reducible refine gate_callee (f := 65) rfl ?_); refine goesL_ (some 25) rfl rfl Tryz.func65 (by kernel_rfl) rfl #[.int .i64 x7_1, .int .i64 x9_2] rfl T1_ ?_; (with_reducible refine (pantryref02_Days.calls x7_1 x9_2 t369 _ A7.out).mono ?_); rintro e w10 ⟨rfl, hb⟩; refine ⟨_, rfl, ?_⟩; replace HB := y1_ hb; (try clear hb)) | ((with_reducible refine gate_callee (f := 65) rfl ?_); refine goesL_ (some 30) rfl rfl Tryz.func65 (by kernel_rfl) rfl #[.int .i64 x7_1, .int .i64 x9_2] rfl T1_ ?_; (with_reducible refine (pantryref02_Days.calls x7_1 x9_2 t370 _ A9.out).mono ?_); rintro e w11 ⟨rfl, hb⟩; refine ⟨_, rfl, ?_⟩; replace HB := y1_ hb; (try clear hb)))
      go_roundg k2
      case measure => have := HJ1.out; have := HK2.out; omega
      case rel => exact ⟨(wrap64 (x6_2 - t370)), (wrap64 (x9_2 + 1)), E3_, E3_, H', ⟨by have := HJ1.out; have := HK2.out; omega⟩, ⟨W1_⟩⟩
     ·
      rw [if_neg c8] at H
      have c8b0 : decide (t369 ≤ x6_2) = false := decide_eq_false c8
      clear c8
      simp only [Option.some.injEq, Prod.mk.injEq] at H
      obtain ⟨rfl, rfl, rfl, rfl⟩ := H
      go_wp2_with (first | ((with_reducible refine gate_callee (f := 65) rfl ?_); refine goesL_ (some 25) rfl rfl Tryz.func65 (by kernel_rfl) rfl #[.int .i64 x7_1, .int .i64 x9_2] rfl T1_ ?_; (with_reducible refine (pantryref02_Days.calls x7_1 x9_2 t369 _ A7.out).mono ?_); rintro e w12 ⟨rfl, hb⟩; refine ⟨_, rfl, ?_⟩; replace HB := y1_ hb; (try clear hb)))
      refine bodyPost_ret (results_list (rs := [.tmp 2, .tmp 3, .tmp 4, .tmp 5]) rfl (by simp) (.tmp (.tmp (.tmp (.tmp .nil))))) rfl ?_
      exact ⟨E1_, W1_⟩

/-! ### pantryref02_two: function 44 -/
def pantryref02_two.f (a0 : Int) : Option (ByteArray) := some (strOfNums (([(wrap64 (48 + (wrap64 (Int.tdiv a0 10)))) % 256, (wrap64 (48 + (Int.tmod a0 10))) % 256] : List Int)))
set_option maxHeartbeats 8000000 in
set_option maxRecDepth 100000 in
theorem pantryref02_two.calls (a0 : Int) (r : ByteArray) (w : World) (h : pantryref02_two.f a0 = some r) :
  Calls Tryz.prog 44 #[.int .i64 a0] w fun e w' => e = .returned (.string r) ∧ Below w.heap.size w w' := by
 have HB := Aside0.mk (Below.refl w.heap.size w)
 have H : (some (strOfNums (([(wrap64 (48 + (wrap64 (Int.tdiv a0 10)))) % 256, (wrap64 (48 + (Int.tmod a0 10))) % 256] : List Int)))) = some r := h
 clear h
 obtain ⟨y371, hy371⟩ : ∃ y_ : List Int, y_ = (([(wrap64 (48 + (wrap64 (Int.tdiv a0 10)))) % 256, (wrap64 (48 + (Int.tmod a0 10))) % 256] : List Int)) := ⟨_, rfl⟩
 replace H : (some (strOfNums y371)) = some r := by first | (rw [hy371]; with_reducible exact H) | (have H2_ := (Option.bind_some _ _).symm.trans H; rw [hy371]; with_reducible exact H2_) | (have H2_ := (Option.bind_some _ _).symm.trans H; with_reducible exact H2_) | with_reducible exact H | (rw [hy371]; exact H) | exact H
 have Ny371 := Aside0.mk hy371
 clear hy371
 obtain rfl := Option.some.inj H
 go_enter Tryz.func44, Tryz.ntmps44
 go_wp2_with (first | ((with_reducible refine gate_dst (N := 11) rfl ?_); refine Kd.R_lit (Kd.int .u8) _ 5 ?hg (N := 11) ?hd (xs := ([(wrap64 (48 + (wrap64 (Int.tdiv a0 10)))) % 256, (wrap64 (48 + (Int.tmod a0 10))) % 256] : List Int)) (inner := [.int .u8 ((wrap64 (48 + (wrap64 (Int.tdiv a0 10)))) % 256), .int .u8 ((wrap64 (48 + (Int.tmod a0 10))) % 256)]) (ok := fun _ => True) (okp := fun _ => True) ?hr ?hp (fun _ hk => hk) trivial (Below.refl _ _) (Nat.le_refl _) (by simp) ?_; (case hd | hg => rfl); (case hr => exact S1_); (case hp => exact (Reps.one (show Kd.M (Kd.int .u8) _ _ _ ((wrap64 (48 + (wrap64 (Int.tdiv a0 10)))) % 256) [.int .u8 ((wrap64 (48 + (wrap64 (Int.tdiv a0 10)))) % 256)] from rfl) (Reps.one (show Kd.M (Kd.int .u8) _ _ _ ((wrap64 (48 + (Int.tmod a0 10))) % 256) [.int .u8 ((wrap64 (48 + (Int.tmod a0 10))) % 256)] from rfl) (Reps.none _ _)))); intro v372 w2 ho3 hb hg_ hnew_; clear hg_ hnew_; (first | rw [← Ny371.out] at ho3 | (simp only [Int.reduceToNat] at ho3; rw [← Ny371.out] at ho3)); have HO373 := Aside0.mk (Kd.R_lower ho3 (below_size W1_)); replace HB := y1_ hb; clear hb ho3; have hcv4 := own_string (P := Tryz.prog) Tryz.underlying80 Tryz.underlying5 Tryz.underlying9 (Kd.own_of_R HO373.out)))
 go_ret
 exact ⟨E1_, W1_⟩

end Go.Proofs.YtgpekljckdgggaaGreatDoor.PAll
