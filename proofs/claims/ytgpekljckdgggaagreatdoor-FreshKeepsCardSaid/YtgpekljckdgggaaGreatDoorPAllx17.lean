import Derived.Test.YtgpekljckdgggaaGreatDoorPAllx0
import Derived.Test.YtgpekljckdgggaaGreatDoorPAllx12
import Derived.Test.YtgpekljckdgggaaGreatDoorPAllx13
import Derived.Test.YtgpekljckdgggaaGreatDoorPAllx14
import Derived.Test.YtgpekljckdgggaaGreatDoorPAllx15
import Derived.Test.YtgpekljckdgggaaGreatDoorPAllx16
namespace Go.Proofs.YtgpekljckdgggaaGreatDoor.PAll
open Go.RowKit Go.Proofs.YtgpekljckdgggaaGreatDoorW.PrintWords Go.Proofs.YtgpekljckdgggaaGreatDoorW.PrintLast Go.Proofs.YtgpekljckdgggaaGreatDoorW.PrintMore
attribute [local go_sem] max2_int min2_int max_two min_two max_three min_three max_four min_four   -- for this text's walks alone
set_option linter.unusedVariables false
set_option linter.unusedSimpArgs false

/-! ### pantryref03_Has: function 58 -/
def pantryref03_Has.l0 : Nat → ByteArray → List ByteArray → Int → Option (Bool)
 | 0, _, _, _ => none
 | k + 1, x2, x7, x8 => if x8 < (x7.length : Int) then (if 0 ≤ x8 then ((pantryref01_Lower.f k (rdOf ByteArray.empty x7 x8)).bind fun t340 => ((pantryref01_Lower.f k x2).bind fun t341 => (if t340.toList = t341.toList then (some true) else (pantryref03_Has.l0 k x2 x7 (wrap64 (x8 + 1)))))) else (none)) else (some false)
def pantryref03_Has.f (k : Nat) (l0 : List (S70)) (a1 : ByteArray) (a2 : ByteArray) : Option (Bool) := (pantryref03_Elements.f k l0 a1).bind fun t336 => (pantryref03_Has.l0 k a2 t336 0)
theorem pantryref03_Has.mono_l : ∀ k, (∀ y0 y1 y2, LeO (pantryref03_Has.l0 k y0 y1 y2) (pantryref03_Has.l0 (k + 1) y0 y1 y2))
 | 0 => fun _ _ _ r h => by simp [pantryref03_Has.l0] at h
 | k + 1 => by
  have ih0 := pantryref03_Has.mono_l k
  ·
   intro y0 y1 y2
   unfold pantryref03_Has.l0
   repeat' (with_reducible first | exact ih0 _ _ _ | exact pantryref01_Lower.mono _ _ | exact pantryref03_Elements.mono _ _ _ | exact lR_ | refine LeO.ite ?_ ?_ | refine LeO.bind ?_ (fun _ => ?_))
theorem pantryref03_Has.mono : ∀ a0 a1 a2 k, LeO (pantryref03_Has.f k a0 a1 a2) (pantryref03_Has.f (k + 1) a0 a1 a2) := by
 intro a0 a1 a2 k
 have ih0 := pantryref03_Has.mono_l k
 unfold pantryref03_Has.f
 repeat' (with_reducible first | exact ih0 _ _ _ | exact pantryref01_Lower.mono _ _ | exact pantryref03_Elements.mono _ _ _ | exact lR_ | refine LeO.ite ?_ ?_ | refine LeO.bind ?_ (fun _ => ?_))
set_option maxHeartbeats 8000000 in
set_option maxRecDepth 100000 in
theorem pantryref03_Has.calls (k : Nat) (A0 : Option Addr) (c0 : Nat) (l0 : List (S70)) (a1 : ByteArray) (a2 : ByteArray) (r : Bool) (w : World) (hr0 : Kd.C k70 w A0 l0.length l0) (hc0 : l0.length ≤ c0) (h : pantryref03_Has.f k l0 a1 a2 = some r) :
  Calls Tryz.prog 58 #[.slice A0 l0.length c0, .string a1, .string a2] w fun e w' => e = .returned (.bool r) ∧ Below w.heap.size w w' := by
 have HR0 := Aside0.mk hr0
 have HC0 := Aside0.mk hc0
 clear hr0 hc0
 have HB := Aside0.mk (Below.refl w.heap.size w)
 have H : ((pantryref03_Elements.f k l0 a1).bind fun t336 => (pantryref03_Has.l0 k a2 t336 0)) = some r := h
 clear h
 obtain ⟨t336, A4, H⟩ := bS_ H
 try dsimp only at H
 have H' := Aside0.mk H
 clear H
 go_enter Tryz.func58, Tryz.ntmps58
 go_wp2_with (first | ((with_reducible refine gate_callee (f := 55) rfl ?_); refine goesL_ (some 11) rfl rfl Tryz.func55 (by kernel_rfl) rfl #[.slice A0 l0.length c0, .string a1] rfl T1_ ?_; (with_reducible refine (pantryref03_Elements.calls k _ _ l0 a1 t336 _ ?side1 ?side2 A4.out).mono ?_); (case side1 => exact C1_ (HR0.out)); (case side2 => exact HC0.out); rintro e w5 ⟨v337, rfl, ho0, hb⟩; refine ⟨_, rfl, ?_⟩; have HO338 := Aside0.mk (Kd.R_lower ho0 (below_size W1_)); replace HB := y1_ hb; (try clear hb); (try clear ho0)))
 go_loopg [8] k (fun kq v8 w' => ∃ (x8_1 : Int), v8 = .int .i64 x8_1 ∧ Aside0 (pantryref03_Has.l0 kq a2 t336 x8_1 = some r) ∧ Aside0 (kq ≤ k) ∧ Aside0 (Kd.R Kd.string 9 w' w.heap.size (fun _ => True) v337 t336) ∧ Aside0 (Below w.heap.size w w'))
 case atStart => exact ⟨(0), E3_, H', ⟨Nat.le_refl _⟩, ⟨R1_ HO338.out⟩, ⟨W1_⟩⟩
 case round =>
  clear H'
  obtain ⟨x8_1, rfl, HA, HK1, HO_7, HB⟩ := hrel
  cases gk with
  | zero => exact absurd HA.out (by simp [pantryref03_Has.l0])
  | succ k1 =>
   have H := HA.out
   clear HA
   simp only [pantryref03_Has.l0] at H
   by_cases c6 : x8_1 < (t336.length : Int)
   ·
    rw [if_pos c6] at H
    have c6b0 : decide (x8_1 < (t336.length : Int)) = true := decide_eq_true c6
    clear c6
    by_cases c7 : 0 ≤ x8_1
    ·
     rw [if_pos c7] at H
     have c7b0 : decide (0 ≤ x8_1) = true := decide_eq_true c7
     clear c7
     obtain ⟨t340, A8, H⟩ := bS_ H
     try dsimp only at H
     obtain ⟨t341, A9, H⟩ := bS_ H
     try dsimp only at H
     by_cases c10 : t340.toList = t341.toList
     ·
      rw [if_pos c10] at H
      have c10b0 : (t340.toList == t341.toList) = true := beq_iff_eq.mpr c10
      have c10b1 : (t340.toList != t341.toList) = false := bne_eq_false_iff_eq.mpr c10
      clear c10
      obtain rfl := Option.some.inj H
      obtain ⟨Ao11, co11, eo11⟩ := Kd.R_slice HO_7.out
      subst eo11
      have p339 : 0 ≤ (x8_1 : Int) := oA_
      have q339 : x8_1 < (t336.length : Int) := oA_
      obtain ⟨ad339, e339, hx339_0⟩ := Kd.at_string (Kd.R_reads' HO_7.out).2.2 x8_1 p339 q339
      cases e339
      replace p339 := eq_true p339
      replace q339 := eq_true q339
      go_wp2_with (first | ((with_reducible refine gate_callee (f := 61) rfl ?_); refine goesL_ (some 22) rfl rfl Tryz.func61 (by kernel_rfl) rfl #[.string (rdOf ByteArray.empty t336 x8_1)] rfl T1_ ?_; (with_reducible refine (pantryref01_Lower.calls k1 (rdOf ByteArray.empty t336 x8_1) t340 _ A8.out).mono ?_); rintro e w12 ⟨rfl, hb⟩; refine ⟨_, rfl, ?_⟩; replace HO_7 := Aside0.mk (Kd.R_below (R1_ HO_7.out) hb); replace HB := y1_ hb; (try clear hb)) | ((with_reducible refine gate_callee (f := 61) rfl ?_); refine goesL_ (some 24) rfl rfl Tryz.func61 (by kernel_rfl) rfl #[.string a2] rfl T1_ ?_; (with_reducible refine (pantryref01_Lower.calls k1 a2 t341 _ A9.out).mono ?_); rintro e w13 ⟨rfl, hb⟩; refine ⟨_, rfl, ?_⟩; replace HO_7 := Aside0.mk (Kd.R_below (R1_ HO_7.out) hb); replace HB := y1_ hb; (try clear hb)))
      go_ret
      exact ⟨E1_, W1_⟩
     ·
      rw [if_neg c10] at H
      have c10b0 : (t340.toList == t341.toList) = false := beq_eq_false_iff_ne.mpr c10
      have c10b1 : (t340.toList != t341.toList) = true := bne_iff_ne.mpr c10
      have H' := Aside0.mk H
      clear H
      obtain ⟨Ao14, co14, eo14⟩ := Kd.R_slice HO_7.out
      subst eo14
      have p339 : 0 ≤ (x8_1 : Int) := oA_
      have q339 : x8_1 < (t336.length : Int) := oA_
      obtain ⟨ad339, e339, hx339_0⟩ := Kd.at_string (Kd.R_reads' HO_7.out).2.2 x8_1 p339 q339
      cases e339
      replace p339 := eq_true p339
      replace q339 := eq_true q339
      go_wp2_with (first | ((with_reducible refine gate_callee (f := 61) rfl ?_); refine goesL_ (some 22) rfl rfl Tryz.func61 (by kernel_rfl) rfl #[.string (rdOf ByteArray.empty t336 x8_1)] rfl T1_ ?_; (with_reducible refine (pantryref01_Lower.calls k1 (rdOf ByteArray.empty t336 x8_1) t340 _ A8.out).mono ?_); rintro e w15 ⟨rfl, hb⟩; refine ⟨_, rfl, ?_⟩; replace HO_7 := Aside0.mk (Kd.R_below (R1_ HO_7.out) hb); replace HB := y1_ hb; (try clear hb)) | ((with_reducible refine gate_callee (f := 61) rfl ?_); refine goesL_ (some 24) rfl rfl Tryz.func61 (by kernel_rfl) rfl #[.string a2] rfl T1_ ?_; (with_reducible refine (pantryref01_Lower.calls k1 a2 t341 _ A9.out).mono ?_); rintro e w16 ⟨rfl, hb⟩; refine ⟨_, rfl, ?_⟩; replace HO_7 := Aside0.mk (Kd.R_below (R1_ HO_7.out) hb); replace HB := y1_ hb; (try clear hb)))
      go_roundg k1
      case measure => have := HK1.out; omega
      case rel => exact ⟨(wrap64 (x8_1 + 1)), E3_, H', ⟨by have := HK1.out; omega⟩, ⟨R1_ HO_7.out⟩, ⟨W1_⟩⟩
    ·
     rw [if_neg c7] at H
     exact absurd H (by simp)
   ·
    rw [if_neg c6] at H
    have c6b0 : decide (x8_1 < (t336.length : Int)) = false := decide_eq_false c6
    clear c6
    obtain rfl := Option.some.inj H
    obtain ⟨Ao17, co17, eo17⟩ := Kd.R_slice HO_7.out
    subst eo17
    go_wp2
    go_ret
    exact ⟨E1_, W1_⟩

/-! ### pantryref04_Of: function 31 -/
def pantryref04_Of.j0 : Nat → List (S70) → List ByteArray → Bool → Bool → Bool → Bool → Bool → Bool → Int → Int → Int → Int → Option (Bool × Bool × Bool × Bool × Bool × Bool × Int × Int × Int × Int)
 | 0, _, _, _, _, _, _, _, _, _, _, _, _ => none
 | k + 1, x0, x3, x352000, x352001, x352002, x352003, x352004, x352005, x352006, x352007, x352008, x352009 => (pantryref04_told.f k x3 (⟨#[109, 97, 120, 45, 97, 103, 101]⟩ : ByteArray) 0 0 false).bind fun t354 => ((pantryref04_told.f k x3 (⟨#[115, 45, 109, 97, 120, 97, 103, 101]⟩ : ByteArray) 0 0 false).bind fun t355 => ((pantryref04_told.f k x3 (⟨#[109, 105, 110, 45, 102, 114, 101, 115, 104]⟩ : ByteArray) 2147483648 2147483648 true).bind fun t356 => ((pantryref04_told.f k x3 (⟨#[109, 97, 120, 45, 115, 116, 97, 108, 101]⟩ : ByteArray) 0 2147483648 false).bind fun t357 => ((pantryref03_Get.f k x0 (⟨#[99, 97, 99, 104, 101, 45, 99, 111, 110, 116, 114, 111, 108]⟩ : ByteArray)).bind fun bt358 => (if bt358.2 = 0 then ((pantryref03_Has.f k x0 (⟨#[112, 114, 97, 103, 109, 97]⟩ : ByteArray) (⟨#[110, 111, 45, 99, 97, 99, 104, 101]⟩ : ByteArray)).bind fun t360 => (if t360 = true then (some (x352000, true, x352002, x352003, x352004, x352005, t354, t355, t356, t357)) else (some (x352000, x352001, x352002, x352003, x352004, x352005, t354, t355, t356, t357)))) else (some (x352000, x352001, x352002, x352003, x352004, x352005, t354, t355, t356, t357)))))))
def pantryref04_Of.f (k : Nat) (l0 : List (S70)) : Option (Bool × Bool × Bool × Bool × Bool × Bool × Int × Int × Int × Int) := (pantryref03_Elements.f k l0 (⟨#[99, 97, 99, 104, 101, 45, 99, 111, 110, 116, 114, 111, 108]⟩ : ByteArray)).bind fun t343 => ((pantryref04_said.f k t343 (⟨#[110, 111, 45, 115, 116, 111, 114, 101]⟩ : ByteArray)).bind fun t346 => ((pantryref04_said.f k t343 (⟨#[110, 111, 45, 99, 97, 99, 104, 101]⟩ : ByteArray)).bind fun t347 => ((pantryref04_said.f k t343 (⟨#[112, 114, 105, 118, 97, 116, 101]⟩ : ByteArray)).bind fun t348 => ((pantryref04_said.f k t343 (⟨#[112, 117, 98, 108, 105, 99]⟩ : ByteArray)).bind fun t349 => ((pantryref04_said.f k t343 (⟨#[111, 110, 108, 121, 45, 105, 102, 45, 99, 97, 99, 104, 101, 100]⟩ : ByteArray)).bind fun t350 => ((pantryref04_said.f k t343 (⟨#[109, 117, 115, 116, 45, 114, 101, 118, 97, 108, 105, 100, 97, 116, 101]⟩ : ByteArray)).bind fun t352 => (if t352 = true then (pantryref04_Of.j0 k l0 t343 t346 t347 t348 t349 true t350 0 0 0 0) else ((pantryref04_said.f k t343 (⟨#[112, 114, 111, 120, 121, 45, 114, 101, 118, 97, 108, 105, 100, 97, 116, 101]⟩ : ByteArray)).bind fun t353 => (pantryref04_Of.j0 k l0 t343 t346 t347 t348 t349 t353 t350 0 0 0 0)))))))))
theorem pantryref04_Of.mono_l : ∀ k, (∀ y0 y1 y2 y3 y4 y5 y6 y7 y8 y9 y10 y11, LeO (pantryref04_Of.j0 k y0 y1 y2 y3 y4 y5 y6 y7 y8 y9 y10 y11) (pantryref04_Of.j0 (k + 1) y0 y1 y2 y3 y4 y5 y6 y7 y8 y9 y10 y11))
 | 0 => fun _ _ _ _ _ _ _ _ _ _ _ _ r h => by simp [pantryref04_Of.j0] at h
 | k + 1 => by
  have ih0 := pantryref04_Of.mono_l k
  ·
   intro y0 y1 y2 y3 y4 y5 y6 y7 y8 y9 y10 y11
   unfold pantryref04_Of.j0
   repeat' (with_reducible first | exact ih0 _ _ _ _ _ _ _ _ _ _ _ _ | exact pantryref03_Elements.mono _ _ _ | exact pantryref03_Get.mono _ _ _ | exact pantryref03_Has.mono _ _ _ _ | exact pantryref04_said.mono _ _ _ | exact pantryref04_told.mono _ _ _ _ _ _ | exact lR_ | refine LeO.ite ?_ ?_ | refine LeO.bind ?_ (fun _ => ?_))
theorem pantryref04_Of.mono : ∀ a0 k, LeO (pantryref04_Of.f k a0) (pantryref04_Of.f (k + 1) a0) := by
 intro a0 k
 have ih0 := pantryref04_Of.mono_l k
 unfold pantryref04_Of.f
 repeat' (with_reducible first | exact ih0 _ _ _ _ _ _ _ _ _ _ _ _ | exact pantryref03_Elements.mono _ _ _ | exact pantryref03_Get.mono _ _ _ | exact pantryref03_Has.mono _ _ _ _ | exact pantryref04_said.mono _ _ _ | exact pantryref04_told.mono _ _ _ _ _ _ | exact lR_ | refine LeO.ite ?_ ?_ | refine LeO.bind ?_ (fun _ => ?_))
set_option maxHeartbeats 8000000 in
set_option maxRecDepth 100000 in
theorem pantryref04_Of.calls (k : Nat) (A0 : Option Addr) (c0 : Nat) (l0 : List (S70)) (r1 : Bool) (r2 : Bool) (r3 : Bool) (r4 : Bool) (r5 : Bool) (r6 : Bool) (r7 : Int) (r8 : Int) (r9 : Int) (r10 : Int) (w : World) (hr0 : Kd.C k70 w A0 l0.length l0) (hc0 : l0.length ≤ c0) (h : pantryref04_Of.f k l0 = some (r1, r2, r3, r4, r5, r6, r7, r8, r9, r10)) :
  Calls Tryz.prog 31 #[.slice A0 l0.length c0] w fun e w' => e = .returned (.agg #[.bool r1, .bool r2, .bool r3, .bool r4, .bool r5, .bool r6, .int .i64 r7, .int .i64 r8, .int .i64 r9, .int .i64 r10]) ∧ Below w.heap.size w w' := by
 have hu64 := Tryz.underlying64
 have HR0 := Aside0.mk hr0
 have HC0 := Aside0.mk hc0
 clear hr0 hc0
 have HB := Aside0.mk (Below.refl w.heap.size w)
 have H : ((pantryref03_Elements.f k l0 (⟨#[99, 97, 99, 104, 101, 45, 99, 111, 110, 116, 114, 111, 108]⟩ : ByteArray)).bind fun t343 => ((pantryref04_said.f k t343 (⟨#[110, 111, 45, 115, 116, 111, 114, 101]⟩ : ByteArray)).bind fun t346 => ((pantryref04_said.f k t343 (⟨#[110, 111, 45, 99, 97, 99, 104, 101]⟩ : ByteArray)).bind fun t347 => ((pantryref04_said.f k t343 (⟨#[112, 114, 105, 118, 97, 116, 101]⟩ : ByteArray)).bind fun t348 => ((pantryref04_said.f k t343 (⟨#[112, 117, 98, 108, 105, 99]⟩ : ByteArray)).bind fun t349 => ((pantryref04_said.f k t343 (⟨#[111, 110, 108, 121, 45, 105, 102, 45, 99, 97, 99, 104, 101, 100]⟩ : ByteArray)).bind fun t350 => ((pantryref04_said.f k t343 (⟨#[109, 117, 115, 116, 45, 114, 101, 118, 97, 108, 105, 100, 97, 116, 101]⟩ : ByteArray)).bind fun t352 => (if t352 = true then (pantryref04_Of.j0 k l0 t343 t346 t347 t348 t349 true t350 0 0 0 0) else ((pantryref04_said.f k t343 (⟨#[112, 114, 111, 120, 121, 45, 114, 101, 118, 97, 108, 105, 100, 97, 116, 101]⟩ : ByteArray)).bind fun t353 => (pantryref04_Of.j0 k l0 t343 t346 t347 t348 t349 t353 t350 0 0 0 0)))))))))) = some (r1, r2, r3, r4, r5, r6, r7, r8, r9, r10) := h
 clear h
 obtain ⟨t343, A2, H⟩ := bS_ H
 try dsimp only at H
 obtain ⟨t346, A3, H⟩ := bS_ H
 try dsimp only at H
 obtain ⟨t347, A4, H⟩ := bS_ H
 try dsimp only at H
 obtain ⟨t348, A5, H⟩ := bS_ H
 try dsimp only at H
 obtain ⟨t349, A6, H⟩ := bS_ H
 try dsimp only at H
 obtain ⟨t350, A7, H⟩ := bS_ H
 try dsimp only at H
 have HC8 := Aside0.mk H
 clear H
 go_enter Tryz.func31, Tryz.ntmps31
 go_upto_region 3 with (first | ((with_reducible refine gate_dst (N := 2) rfl ?_); refine box_event ?hg (N := 2) ?hd (cs := #[.bool false, .bool false, .bool false, .bool false, .bool false, .bool false, .int .i64 0, .int .i64 0, .int .i64 0, .int .i64 0]) (t := 64) ?hr ?_; (case hd | hg => rfl); (case hr => exact S1_); intro gb342 hg w9 hbox hb; have BK342 := Aside0.mk (hbox); have GW342 := Aside0.mk ((Z1_ : w.heap.size ≤ gb342)); have GE342 := Aside0.mk ((Z1_ : w.heap.size ≤ gb342)); replace HB := y1_ hb; clear hb hbox hg) | ((with_reducible refine gate_callee (f := 55) rfl ?_); refine goesL_ (some 8) rfl rfl Tryz.func55 (by kernel_rfl) rfl #[.slice A0 l0.length c0, .string (⟨#[99, 97, 99, 104, 101, 45, 99, 111, 110, 116, 114, 111, 108]⟩ : ByteArray)] rfl T1_ ?_; (with_reducible refine (pantryref03_Elements.calls k _ _ l0 (⟨#[99, 97, 99, 104, 101, 45, 99, 111, 110, 116, 114, 111, 108]⟩ : ByteArray) t343 _ ?side1 ?side2 A2.out).mono ?_); (case side1 => exact C1_ ((Kd.C_below HR0.out HB.out))); (case side2 => exact HC0.out); rintro e w10 ⟨v344, rfl, ho0, hb⟩; refine ⟨_, rfl, ?_⟩; have HO345 := Aside0.mk (Kd.R_lower ho0 (below_size W2_)); replace BK342 := yB_ BK342 hb; replace HB := y2_ hb; (try clear hb); (try clear ho0); obtain ⟨Ao11, co11, eo11⟩ := Kd.R_slice HO345.out; subst eo11) | ((with_reducible refine gate_callee (f := 56) rfl ?_); refine goesL_ (some 10) rfl rfl Tryz.func56 (by kernel_rfl) rfl #[.slice Ao11 t343.length co11, .string (⟨#[110, 111, 45, 115, 116, 111, 114, 101]⟩ : ByteArray)] rfl T1_ ?_; (with_reducible refine (pantryref04_said.calls k _ _ t343 (⟨#[110, 111, 45, 115, 116, 111, 114, 101]⟩ : ByteArray) t346 _ ?side1 ?side2 A3.out).mono ?_); (case side1 => exact C1_ ((Kd.R_reads' HO345.out).2.2)); (case side2 => exact (Kd.R_reads' HO345.out).2.1); rintro e w12 ⟨rfl, hb⟩; refine ⟨_, rfl, ?_⟩; replace HO345 := Aside0.mk (Kd.R_below (R1_ HO345.out) hb); replace BK342 := yB_ BK342 hb; replace HB := y2_ hb; (try clear hb)) | ((with_reducible refine gate_callee (f := 56) rfl ?_); refine goesL_ (some 12) rfl rfl Tryz.func56 (by kernel_rfl) rfl #[.slice Ao11 t343.length co11, .string (⟨#[110, 111, 45, 99, 97, 99, 104, 101]⟩ : ByteArray)] rfl T1_ ?_; (with_reducible refine (pantryref04_said.calls k _ _ t343 (⟨#[110, 111, 45, 99, 97, 99, 104, 101]⟩ : ByteArray) t347 _ ?side1 ?side2 A4.out).mono ?_); (case side1 => exact C1_ ((Kd.R_reads' HO345.out).2.2)); (case side2 => exact (Kd.R_reads' HO345.out).2.1); rintro e w13 ⟨rfl, hb⟩; refine ⟨_, rfl, ?_⟩; replace HO345 := Aside0.mk (Kd.R_below (R1_ HO345.out) hb); replace BK342 := yB_ BK342 hb; replace HB := y2_ hb; (try clear hb)) | ((with_reducible refine gate_callee (f := 56) rfl ?_); refine goesL_ (some 14) rfl rfl Tryz.func56 (by kernel_rfl) rfl #[.slice Ao11 t343.length co11, .string (⟨#[112, 114, 105, 118, 97, 116, 101]⟩ : ByteArray)] rfl T1_ ?_; (with_reducible refine (pantryref04_said.calls k _ _ t343 (⟨#[112, 114, 105, 118, 97, 116, 101]⟩ : ByteArray) t348 _ ?side1 ?side2 A5.out).mono ?_); (case side1 => exact C1_ ((Kd.R_reads' HO345.out).2.2)); (case side2 => exact (Kd.R_reads' HO345.out).2.1); rintro e w14 ⟨rfl, hb⟩; refine ⟨_, rfl, ?_⟩; replace HO345 := Aside0.mk (Kd.R_below (R1_ HO345.out) hb); replace BK342 := yB_ BK342 hb; replace HB := y2_ hb; (try clear hb)) | ((with_reducible refine gate_callee (f := 56) rfl ?_); refine goesL_ (some 16) rfl rfl Tryz.func56 (by kernel_rfl) rfl #[.slice Ao11 t343.length co11, .string (⟨#[112, 117, 98, 108, 105, 99]⟩ : ByteArray)] rfl T1_ ?_; (with_reducible refine (pantryref04_said.calls k _ _ t343 (⟨#[112, 117, 98, 108, 105, 99]⟩ : ByteArray) t349 _ ?side1 ?side2 A6.out).mono ?_); (case side1 => exact C1_ ((Kd.R_reads' HO345.out).2.2)); (case side2 => exact (Kd.R_reads' HO345.out).2.1); rintro e w15 ⟨rfl, hb⟩; refine ⟨_, rfl, ?_⟩; replace HO345 := Aside0.mk (Kd.R_below (R1_ HO345.out) hb); replace BK342 := yB_ BK342 hb; replace HB := y2_ hb; (try clear hb)) | ((with_reducible refine gate_callee (f := 56) rfl ?_); refine goesL_ (some 18) rfl rfl Tryz.func56 (by kernel_rfl) rfl #[.slice Ao11 t343.length co11, .string (⟨#[111, 110, 108, 121, 45, 105, 102, 45, 99, 97, 99, 104, 101, 100]⟩ : ByteArray)] rfl T1_ ?_; (with_reducible refine (pantryref04_said.calls k _ _ t343 (⟨#[111, 110, 108, 121, 45, 105, 102, 45, 99, 97, 99, 104, 101, 100]⟩ : ByteArray) t350 _ ?side1 ?side2 A7.out).mono ?_); (case side1 => exact C1_ ((Kd.R_reads' HO345.out).2.2)); (case side2 => exact (Kd.R_reads' HO345.out).2.1); rintro e w16 ⟨rfl, hb⟩; refine ⟨_, rfl, ?_⟩; replace HO345 := Aside0.mk (Kd.R_below (R1_ HO345.out) hb); replace BK342 := yB_ BK342 hb; replace HB := y2_ hb; (try clear hb)) | ((with_reducible refine gate_dst (N := 4) rfl ?_); refine box_event ?hg (N := 4) ?hd (cs := #[.bool false, .bool false, .bool false, .bool false, .bool false, .bool false, .int .i64 0, .int .i64 0, .int .i64 0, .int .i64 0]) (t := 64) ?hr ?_; (case hd | hg => rfl); (case hr => exact S1_); intro gb351 hg w17 hbox hb; have BK351 := Aside0.mk (hbox); have GW351 := Aside0.mk ((Z2_ : w.heap.size ≤ gb351)); have GE351 := Aside0.mk ((Z2_ : w.heap.size ≤ gb351)); have NB342_351 := Aside0.mk ((by rw [hg]; exact Nat.ne_of_lt (blk_lt (B1_ BK342.out)) : gb342 ≠ gb351)); have NB351_342 := Aside0.mk ((by rw [hg]; exact Nat.ne_of_gt (blk_lt (B1_ BK342.out)) : gb351 ≠ gb342)); replace HO345 := Aside0.mk (Kd.R_below (R1_ HO345.out) hb); replace BK342 := yB_ BK342 hb; replace HB := y2_ hb; clear hb hbox hg; have hnb18 := NB351_342.out; have hnc18 := NB342_351.out; obtain ⟨z19_0, z19_1, z19_2, z19_3, z19_4, z19_5, z19_6, z19_7, z19_8, z19_9, y19_0, y19_1, y19_2, y19_3, y19_4, y19_5, y19_6, y19_7, y19_8, y19_9⟩ := cz10_ BK351.out))
 (try simp only [Act.put, sA_, sZ_, sS_])
 go_cut [] (fun wc => ∃ (kq : Nat) (x352004_7 : Bool), Aside0 (pantryref04_Of.j0 kq l0 t343 t346 t347 t348 t349 x352004_7 t350 0 0 0 0 = some (r1, r2, r3, r4, r5, r6, r7, r8, r9, r10)) ∧ Aside0 (kq ≤ k) ∧ Aside0 (Kd.R Kd.string 9 wc w.heap.size (fun _ => True) (.slice Ao11 t343.length co11) t343) ∧ Aside0 (wc.heap[gb342]? = some (.cells #[.bool false, .bool false, .bool false, .bool false, .bool false, .bool false, .int .i64 0, .int .i64 0, .int .i64 0, .int .i64 0] 64 (0, 0))) ∧ Aside0 (wc.heap[gb351]? = some (.cells #[.bool t346, .bool t347, .bool t348, .bool t349, .bool x352004_7, .bool t350, .int .i64 0, .int .i64 0, .int .i64 0, .int .i64 0] 64 (0, 0))) ∧ Aside0 (Below w.heap.size w wc))
 case first =>
  have H := HC8.out
  clear HC8
  obtain ⟨t352, A20, H⟩ := bS_ H
  try dsimp only at H
  by_cases c21 : t352 = true
  ·
   subst c21
   rw [if_pos rfl] at H
   have H' := Aside0.mk H
   clear H
   go_wp2_with (first | ((with_reducible refine gate_callee (f := 56) rfl ?_); refine goesL_ (some 21) rfl rfl Tryz.func56 (by kernel_rfl) rfl #[.slice Ao11 t343.length co11, .string (⟨#[109, 117, 115, 116, 45, 114, 101, 118, 97, 108, 105, 100, 97, 116, 101]⟩ : ByteArray)] rfl T1_ ?_; (with_reducible refine (pantryref04_said.calls k _ _ t343 (⟨#[109, 117, 115, 116, 45, 114, 101, 118, 97, 108, 105, 100, 97, 116, 101]⟩ : ByteArray) true _ ?side1 ?side2 A20.out).mono ?_); (case side1 => refine (Kd.R_reads' (e := 9) (base := w.heap.size) (ok := fun k_ => True) (n := t343.length) (c := co11) ?_).2.2; exact (by refine R1_ ?_; exact (Kd.R_mono (Kd.R_far (p := ⟨gb351, 9, none⟩) (Kd.R_far (p := ⟨gb351, 8, none⟩) (Kd.R_far (p := ⟨gb351, 7, none⟩) (Kd.R_far (p := ⟨gb351, 6, none⟩) (Kd.R_far (p := ⟨gb351, 5, none⟩) (Kd.R_far (p := ⟨gb351, 4, none⟩) (Kd.R_far (p := ⟨gb351, 3, none⟩) (Kd.R_far (p := ⟨gb351, 2, none⟩) (Kd.R_far (p := ⟨gb351, 1, none⟩) (Kd.R_far (p := ⟨gb351, 0, none⟩) (Kd.R_types HO345.out BK351.out (by decide)) (fun _ hk => hk.2) (.bool t346)) (fun _ hk => hk.2) (.bool t347)) (fun _ hk => hk.2) (.bool t348)) (fun _ hk => hk.2) (.bool t349)) (fun _ hk => hk.2) (.bool false)) (fun _ hk => hk.2) (.bool t350)) (fun _ hk => hk.2) (.int .i64 0)) (fun _ hk => hk.2) (.int .i64 0)) (fun _ hk => hk.2) (.int .i64 0)) (fun _ hk => hk.2) (.int .i64 0)) (fun _ h_ => h_.1)))); (case side2 => exact (Kd.R_reads' HO345.out).2.1); rintro e w22 ⟨rfl, hb⟩; refine ⟨_, rfl, ?_⟩; replace HO345 := Aside0.mk (Kd.R_below (by refine R1_ ?_; exact (Kd.R_mono (Kd.R_far (p := ⟨gb351, 9, none⟩) (Kd.R_far (p := ⟨gb351, 8, none⟩) (Kd.R_far (p := ⟨gb351, 7, none⟩) (Kd.R_far (p := ⟨gb351, 6, none⟩) (Kd.R_far (p := ⟨gb351, 5, none⟩) (Kd.R_far (p := ⟨gb351, 4, none⟩) (Kd.R_far (p := ⟨gb351, 3, none⟩) (Kd.R_far (p := ⟨gb351, 2, none⟩) (Kd.R_far (p := ⟨gb351, 1, none⟩) (Kd.R_far (p := ⟨gb351, 0, none⟩) (Kd.R_types HO345.out BK351.out (by decide)) (fun _ hk => hk.2) (.bool t346)) (fun _ hk => hk.2) (.bool t347)) (fun _ hk => hk.2) (.bool t348)) (fun _ hk => hk.2) (.bool t349)) (fun _ hk => hk.2) (.bool false)) (fun _ hk => hk.2) (.bool t350)) (fun _ hk => hk.2) (.int .i64 0)) (fun _ hk => hk.2) (.int .i64 0)) (fun _ hk => hk.2) (.int .i64 0)) (fun _ hk => hk.2) (.int .i64 0)) (fun _ h_ => h_.1))) hb); replace BK342 := Aside0.mk (blk_below (g := gb342) (o := .cells #[.bool false, .bool false, .bool false, .bool false, .bool false, .bool false, .int .i64 0, .int .i64 0, .int .i64 0, .int .i64 0] 64 (0, 0)) (G1_ BK342.out) hb); replace BK351 := Aside0.mk (blk_below (g := gb351) (o := .cells #[.bool t346, .bool t347, .bool t348, .bool t349, .bool false, .bool t350, .int .i64 0, .int .i64 0, .int .i64 0, .int .i64 0] 64 (0, 0)) (G1_ BK351.out) hb); replace HB := y2_ hb; (try clear hb); (try clear hk); have hnb23 := NB351_342.out; have hnc23 := NB342_351.out; obtain ⟨z24_0, z24_1, z24_2, z24_3, z24_4, z24_5, z24_6, z24_7, z24_8, z24_9, y24_0, y24_1, y24_2, y24_3, y24_4, y24_5, y24_6, y24_7, y24_8, y24_9⟩ := cz10_ BK351.out))
   go_meet
   case rel => exact ⟨_, (true), H', ⟨by first | omega | exact Nat.le_refl _⟩, ⟨by refine R1_ ?_; exact Kd.R_mono (Kd.R_far (p := ⟨gb351, 4, none⟩) (Kd.R_types HO345.out BK351.out (by decide)) (fun _ hk => hk.2) (.bool true)) (fun _ hk => trivial)⟩, ⟨G1_ BK342.out⟩, ⟨G1_ BK351.out⟩, ⟨W2_⟩⟩
  ·
   replace c21 := Bool.eq_false_iff.mpr c21
   subst c21
   rw [if_neg (show ¬ (false = true) by decide)] at H
   obtain ⟨t353, A25, H⟩ := bS_ H
   try dsimp only at H
   have H' := Aside0.mk H
   clear H
   go_wp2_with (first | ((with_reducible refine gate_callee (f := 56) rfl ?_); refine goesL_ (some 21) rfl rfl Tryz.func56 (by kernel_rfl) rfl #[.slice Ao11 t343.length co11, .string (⟨#[109, 117, 115, 116, 45, 114, 101, 118, 97, 108, 105, 100, 97, 116, 101]⟩ : ByteArray)] rfl T1_ ?_; (with_reducible refine (pantryref04_said.calls k _ _ t343 (⟨#[109, 117, 115, 116, 45, 114, 101, 118, 97, 108, 105, 100, 97, 116, 101]⟩ : ByteArray) false _ ?side1 ?side2 A20.out).mono ?_); (case side1 => refine (Kd.R_reads' (e := 9) (base := w.heap.size) (ok := fun k_ => True) (n := t343.length) (c := co11) ?_).2.2; exact (by refine R1_ ?_; exact (Kd.R_mono (Kd.R_far (p := ⟨gb351, 9, none⟩) (Kd.R_far (p := ⟨gb351, 8, none⟩) (Kd.R_far (p := ⟨gb351, 7, none⟩) (Kd.R_far (p := ⟨gb351, 6, none⟩) (Kd.R_far (p := ⟨gb351, 5, none⟩) (Kd.R_far (p := ⟨gb351, 4, none⟩) (Kd.R_far (p := ⟨gb351, 3, none⟩) (Kd.R_far (p := ⟨gb351, 2, none⟩) (Kd.R_far (p := ⟨gb351, 1, none⟩) (Kd.R_far (p := ⟨gb351, 0, none⟩) (Kd.R_types HO345.out BK351.out (by decide)) (fun _ hk => hk.2) (.bool t346)) (fun _ hk => hk.2) (.bool t347)) (fun _ hk => hk.2) (.bool t348)) (fun _ hk => hk.2) (.bool t349)) (fun _ hk => hk.2) (.bool false)) (fun _ hk => hk.2) (.bool t350)) (fun _ hk => hk.2) (.int .i64 0)) (fun _ hk => hk.2) (.int .i64 0)) (fun _ hk => hk.2) (.int .i64 0)) (fun _ hk => hk.2) (.int .i64 0)) (fun _ h_ => h_.1)))); (case side2 => exact (Kd.R_reads' HO345.out).2.1); rintro e w26 ⟨rfl, hb⟩; refine ⟨_, rfl, ?_⟩; replace HO345 := Aside0.mk (Kd.R_below (by refine R1_ ?_; exact (Kd.R_mono (Kd.R_far (p := ⟨gb351, 9, none⟩) (Kd.R_far (p := ⟨gb351, 8, none⟩) (Kd.R_far (p := ⟨gb351, 7, none⟩) (Kd.R_far (p := ⟨gb351, 6, none⟩) (Kd.R_far (p := ⟨gb351, 5, none⟩) (Kd.R_far (p := ⟨gb351, 4, none⟩) (Kd.R_far (p := ⟨gb351, 3, none⟩) (Kd.R_far (p := ⟨gb351, 2, none⟩) (Kd.R_far (p := ⟨gb351, 1, none⟩) (Kd.R_far (p := ⟨gb351, 0, none⟩) (Kd.R_types HO345.out BK351.out (by decide)) (fun _ hk => hk.2) (.bool t346)) (fun _ hk => hk.2) (.bool t347)) (fun _ hk => hk.2) (.bool t348)) (fun _ hk => hk.2) (.bool t349)) (fun _ hk => hk.2) (.bool false)) (fun _ hk => hk.2) (.bool t350)) (fun _ hk => hk.2) (.int .i64 0)) (fun _ hk => hk.2) (.int .i64 0)) (fun _ hk => hk.2) (.int .i64 0)) (fun _ hk => hk.2) (.int .i64 0)) (fun _ h_ => h_.1))) hb); replace BK342 := Aside0.mk (blk_below (g := gb342) (o := .cells #[.bool false, .bool false, .bool false, .bool false, .bool false, .bool false, .int .i64 0, .int .i64 0, .int .i64 0, .int .i64 0] 64 (0, 0)) (G1_ BK342.out) hb); replace BK351 := Aside0.mk (blk_below (g := gb351) (o := .cells #[.bool t346, .bool t347, .bool t348, .bool t349, .bool false, .bool t350, .int .i64 0, .int .i64 0, .int .i64 0, .int .i64 0] 64 (0, 0)) (G1_ BK351.out) hb); replace HB := y2_ hb; (try clear hb); (try clear hk)) | (go_at_call 56; (with_reducible refine (pantryref04_said.calls k _ _ t343 (⟨#[112, 114, 111, 120, 121, 45, 114, 101, 118, 97, 108, 105, 100, 97, 116, 101]⟩ : ByteArray) t353 _ ?side1 ?side2 A25.out).mono ?_); (case side1 => exact C1_ ((Kd.R_reads' HO345.out).2.2)); (case side2 => exact (Kd.R_reads' HO345.out).2.1); rintro e w27 ⟨rfl, hb⟩; replace HO345 := Aside0.mk (Kd.R_below (R1_ HO345.out) hb); replace BK342 := yB_ BK342 hb; replace BK351 := yB_ BK351 hb; replace HB := y2_ hb; (try clear hb); have hnb28 := NB351_342.out; have hnc28 := NB342_351.out; obtain ⟨z29_0, z29_1, z29_2, z29_3, z29_4, z29_5, z29_6, z29_7, z29_8, z29_9, y29_0, y29_1, y29_2, y29_3, y29_4, y29_5, y29_6, y29_7, y29_8, y29_9⟩ := cz10_ BK351.out))
   go_meet
   case rel => exact ⟨_, (t353), H', ⟨by first | omega | exact Nat.le_refl _⟩, ⟨by refine R1_ ?_; exact Kd.R_mono (Kd.R_far (p := ⟨gb351, 4, none⟩) (Kd.R_types HO345.out BK351.out (by decide)) (fun _ hk => hk.2) (.bool t353)) (fun _ hk => trivial)⟩, ⟨G1_ BK342.out⟩, ⟨G1_ BK351.out⟩, ⟨W2_⟩⟩
 case rest =>
  clear HC8
  (try clear c21); (try clear z19_0 z19_1 z19_2 z19_3 z19_4 z19_5 z19_6 z19_7 z19_8 z19_9 y19_0 y19_1 y19_2 y19_3 y19_4 y19_5 y19_6 y19_7 y19_8 y19_9); (try clear z24_0 z24_1 z24_2 z24_3 z24_4 z24_5 z24_6 z24_7 z24_8 z24_9 y24_0 y24_1 y24_2 y24_3 y24_4 y24_5 y24_6 y24_7 y24_8 y24_9); (try clear z29_0 z29_1 z29_2 z29_3 z29_4 z29_5 z29_6 z29_7 z29_8 z29_9 y29_0 y29_1 y29_2 y29_3 y29_4 y29_5 y29_6 y29_7 y29_8 y29_9)
  obtain ⟨kq, x352004_7, HA, HJ7, HO_3, BK342, BK351, HB⟩ := hcut
  cases kq with
  | zero => exact absurd HA.out (by simp [pantryref04_Of.j0])
  | succ kj7 =>
   have H := HA.out
   clear HA
   simp only [pantryref04_Of.j0] at H
   obtain ⟨t354, A30, H⟩ := bS_ H
   try dsimp only at H
   obtain ⟨t355, A31, H⟩ := bS_ H
   try dsimp only at H
   obtain ⟨t356, A32, H⟩ := bS_ H
   try dsimp only at H
   obtain ⟨t357, A33, H⟩ := bS_ H
   try dsimp only at H
   obtain ⟨⟨t358, t359⟩, A34, H⟩ := bS_ H
   try dsimp only at H
   by_cases c35 : t359 = 0
   ·
    rw [if_pos c35] at H
    have c35b0 : (t359 == 0) = true := beq_iff_eq.mpr c35
    have c35b1 : (t359 != 0) = false := bne_eq_false_iff_eq.mpr c35
    clear c35
    obtain ⟨t360, A36, H⟩ := bS_ H
    try dsimp only at H
    by_cases c37 : t360 = true
    ·
     subst c37
     rw [if_pos rfl] at H
     simp only [Option.some.injEq, Prod.mk.injEq] at H
     obtain ⟨rfl, rfl, rfl, rfl, rfl, rfl, rfl, rfl, rfl, rfl⟩ := H
     go_wp2_with (first | ((with_reducible refine gate_callee (f := 57) rfl ?_); refine goesL_ (some 28) rfl rfl Tryz.func57 (by kernel_rfl) rfl #[.slice Ao11 t343.length co11, .string (⟨#[109, 97, 120, 45, 97, 103, 101]⟩ : ByteArray), .int .i64 0, .int .i64 0, .bool false] rfl T1_ ?_; (with_reducible refine (pantryref04_told.calls kj7 _ _ t343 (⟨#[109, 97, 120, 45, 97, 103, 101]⟩ : ByteArray) 0 0 false t354 _ ?side1 ?side2 A30.out).mono ?_); (case side1 => exact C1_ ((Kd.R_reads' HO_3.out).2.2)); (case side2 => exact (Kd.R_reads' HO_3.out).2.1); rintro e w38 ⟨rfl, hb⟩; refine ⟨_, rfl, ?_⟩; replace HO_3 := Aside0.mk (Kd.R_below (R1_ HO_3.out) hb); replace BK342 := yB_ BK342 hb; replace BK351 := yB_ BK351 hb; replace HB := y2_ hb; (try clear hb); have hnb39 := NB351_342.out; have hnc39 := NB342_351.out; obtain ⟨z40_0, z40_1, z40_2, z40_3, z40_4, z40_5, z40_6, z40_7, z40_8, z40_9, y40_0, y40_1, y40_2, y40_3, y40_4, y40_5, y40_6, y40_7, y40_8, y40_9⟩ := cz10_ BK351.out) | ((with_reducible refine gate_callee (f := 57) rfl ?_); refine goesL_ (some 31) rfl rfl Tryz.func57 (by kernel_rfl) rfl #[.slice Ao11 t343.length co11, .string (⟨#[115, 45, 109, 97, 120, 97, 103, 101]⟩ : ByteArray), .int .i64 0, .int .i64 0, .bool false] rfl T1_ ?_; (with_reducible refine (pantryref04_told.calls kj7 _ _ t343 (⟨#[115, 45, 109, 97, 120, 97, 103, 101]⟩ : ByteArray) 0 0 false t355 _ ?side1 ?side2 A31.out).mono ?_); (case side1 => refine (Kd.R_reads' (e := 9) (base := w.heap.size) (ok := fun k_ => True) (n := t343.length) (c := co11) ?_).2.2; exact (by refine R1_ ?_; exact (Kd.R_mono (Kd.R_far (p := ⟨gb351, 6, none⟩) (Kd.R_types HO_3.out BK351.out (by decide)) (fun _ hk => hk.2) (.int .i64 t354)) (fun _ h_ => h_.1)))); (case side2 => exact (Kd.R_reads' HO_3.out).2.1); rintro e w41 ⟨rfl, hb⟩; refine ⟨_, rfl, ?_⟩; replace HO_3 := Aside0.mk (Kd.R_below (by refine R1_ ?_; exact (Kd.R_mono (Kd.R_far (p := ⟨gb351, 6, none⟩) (Kd.R_types HO_3.out BK351.out (by decide)) (fun _ hk => hk.2) (.int .i64 t354)) (fun _ h_ => h_.1))) hb); replace BK342 := Aside0.mk (blk_below (g := gb342) (o := .cells #[.bool false, .bool false, .bool false, .bool false, .bool false, .bool false, .int .i64 0, .int .i64 0, .int .i64 0, .int .i64 0] 64 (0, 0)) (G1_ BK342.out) hb); replace BK351 := Aside0.mk (blk_below (g := gb351) (o := .cells #[.bool t346, .bool t347, .bool t348, .bool t349, .bool x352004_7, .bool t350, .int .i64 t354, .int .i64 0, .int .i64 0, .int .i64 0] 64 (0, 0)) (G1_ BK351.out) hb); replace HB := y2_ hb; (try clear hb); (try clear hk); obtain ⟨z42_0, z42_1, z42_2, z42_3, z42_4, z42_5, z42_6, z42_7, z42_8, z42_9, y42_0, y42_1, y42_2, y42_3, y42_4, y42_5, y42_6, y42_7, y42_8, y42_9⟩ := cz10_ BK351.out) | ((with_reducible refine gate_callee (f := 57) rfl ?_); refine goesL_ (some 34) rfl rfl Tryz.func57 (by kernel_rfl) rfl #[.slice Ao11 t343.length co11, .string (⟨#[109, 105, 110, 45, 102, 114, 101, 115, 104]⟩ : ByteArray), .int .i64 2147483648, .int .i64 2147483648, .bool true] rfl T1_ ?_; (with_reducible refine (pantryref04_told.calls kj7 _ _ t343 (⟨#[109, 105, 110, 45, 102, 114, 101, 115, 104]⟩ : ByteArray) 2147483648 2147483648 true t356 _ ?side1 ?side2 A32.out).mono ?_); (case side1 => refine (Kd.R_reads' (e := 9) (base := w.heap.size) (ok := fun k_ => True) (n := t343.length) (c := co11) ?_).2.2; exact (by refine R1_ ?_; exact (Kd.R_mono (Kd.R_far (p := ⟨gb351, 7, none⟩) (Kd.R_types HO_3.out BK351.out (by decide)) (fun _ hk => hk.2) (.int .i64 t355)) (fun _ h_ => h_.1)))); (case side2 => exact (Kd.R_reads' HO_3.out).2.1); rintro e w43 ⟨rfl, hb⟩; refine ⟨_, rfl, ?_⟩; replace HO_3 := Aside0.mk (Kd.R_below (by refine R1_ ?_; exact (Kd.R_mono (Kd.R_far (p := ⟨gb351, 7, none⟩) (Kd.R_types HO_3.out BK351.out (by decide)) (fun _ hk => hk.2) (.int .i64 t355)) (fun _ h_ => h_.1))) hb); replace BK342 := Aside0.mk (blk_below (g := gb342) (o := .cells #[.bool false, .bool false, .bool false, .bool false, .bool false, .bool false, .int .i64 0, .int .i64 0, .int .i64 0, .int .i64 0] 64 (0, 0)) (G1_ BK342.out) hb); replace BK351 := Aside0.mk (blk_below (g := gb351) (o := .cells #[.bool t346, .bool t347, .bool t348, .bool t349, .bool x352004_7, .bool t350, .int .i64 t354, .int .i64 t355, .int .i64 0, .int .i64 0] 64 (0, 0)) (G1_ BK351.out) hb); replace HB := y2_ hb; (try clear hb); (try clear hk); obtain ⟨z44_0, z44_1, z44_2, z44_3, z44_4, z44_5, z44_6, z44_7, z44_8, z44_9, y44_0, y44_1, y44_2, y44_3, y44_4, y44_5, y44_6, y44_7, y44_8, y44_9⟩ := cz10_ BK351.out) | ((with_reducible refine gate_callee (f := 57) rfl ?_); refine goesL_ (some 37) rfl rfl Tryz.func57 (by kernel_rfl) rfl #[.slice Ao11 t343.length co11, .string (⟨#[109, 97, 120, 45, 115, 116, 97, 108, 101]⟩ : ByteArray), .int .i64 0, .int .i64 2147483648, .bool false] rfl T1_ ?_; (with_reducible refine (pantryref04_told.calls kj7 _ _ t343 (⟨#[109, 97, 120, 45, 115, 116, 97, 108, 101]⟩ : ByteArray) 0 2147483648 false t357 _ ?side1 ?side2 A33.out).mono ?_); (case side1 => refine (Kd.R_reads' (e := 9) (base := w.heap.size) (ok := fun k_ => True) (n := t343.length) (c := co11) ?_).2.2; exact (by refine R1_ ?_; exact (Kd.R_mono (Kd.R_far (p := ⟨gb351, 8, none⟩) (Kd.R_types HO_3.out BK351.out (by decide)) (fun _ hk => hk.2) (.int .i64 t356)) (fun _ h_ => h_.1)))); (case side2 => exact (Kd.R_reads' HO_3.out).2.1); rintro e w45 ⟨rfl, hb⟩; refine ⟨_, rfl, ?_⟩; replace HO_3 := Aside0.mk (Kd.R_below (by refine R1_ ?_; exact (Kd.R_mono (Kd.R_far (p := ⟨gb351, 8, none⟩) (Kd.R_types HO_3.out BK351.out (by decide)) (fun _ hk => hk.2) (.int .i64 t356)) (fun _ h_ => h_.1))) hb); replace BK342 := Aside0.mk (blk_below (g := gb342) (o := .cells #[.bool false, .bool false, .bool false, .bool false, .bool false, .bool false, .int .i64 0, .int .i64 0, .int .i64 0, .int .i64 0] 64 (0, 0)) (G1_ BK342.out) hb); replace BK351 := Aside0.mk (blk_below (g := gb351) (o := .cells #[.bool t346, .bool t347, .bool t348, .bool t349, .bool x352004_7, .bool t350, .int .i64 t354, .int .i64 t355, .int .i64 t356, .int .i64 0] 64 (0, 0)) (G1_ BK351.out) hb); replace HB := y2_ hb; (try clear hb); (try clear hk); obtain ⟨z46_0, z46_1, z46_2, z46_3, z46_4, z46_5, z46_6, z46_7, z46_8, z46_9, y46_0, y46_1, y46_2, y46_3, y46_4, y46_5, y46_6, y46_7, y46_8, y46_9⟩ := cz10_ BK351.out) | ((with_reducible refine gate_callee (f := 32) rfl ?_); refine goesL_ (some 41) rfl rfl Tryz.func32 (by kernel_rfl) rfl #[.slice A0 l0.length c0, .string (⟨#[99, 97, 99, 104, 101, 45, 99, 111, 110, 116, 114, 111, 108]⟩ : ByteArray)] rfl T1_ ?_; (with_reducible refine (pantryref03_Get.calls kj7 _ _ l0 (⟨#[99, 97, 99, 104, 101, 45, 99, 111, 110, 116, 114, 111, 108]⟩ : ByteArray) t358 t359 _ ?side1 ?side2 A34.out).mono ?_); (case side1 => exact Kd.C_below HR0.out W2_); (case side2 => exact HC0.out); rintro e w47 ⟨rfl, hb⟩; refine ⟨_, rfl, ?_⟩; replace HO_3 := Aside0.mk (Kd.R_below (by refine R1_ ?_; exact (Kd.R_mono (Kd.R_far (p := ⟨gb351, 9, none⟩) (Kd.R_types HO_3.out BK351.out (by decide)) (fun _ hk => hk.2) (.int .i64 t357)) (fun _ h_ => h_.1))) hb); replace BK342 := Aside0.mk (blk_below (g := gb342) (o := .cells #[.bool false, .bool false, .bool false, .bool false, .bool false, .bool false, .int .i64 0, .int .i64 0, .int .i64 0, .int .i64 0] 64 (0, 0)) (G1_ BK342.out) hb); replace BK351 := Aside0.mk (blk_below (g := gb351) (o := .cells #[.bool t346, .bool t347, .bool t348, .bool t349, .bool x352004_7, .bool t350, .int .i64 t354, .int .i64 t355, .int .i64 t356, .int .i64 t357] 64 (0, 0)) (G1_ BK351.out) hb); replace HB := y2_ hb; (try clear hb); (try clear hk)) | (go_at_call 58; (with_reducible refine (pantryref03_Has.calls kj7 _ _ l0 (⟨#[112, 114, 97, 103, 109, 97]⟩ : ByteArray) (⟨#[110, 111, 45, 99, 97, 99, 104, 101]⟩ : ByteArray) true _ ?side1 ?side2 A36.out).mono ?_); (case side1 => exact C1_ ((Kd.C_below HR0.out HB.out))); (case side2 => exact HC0.out); rintro e w48 ⟨rfl, hb⟩; replace HO_3 := Aside0.mk (Kd.R_below (R1_ HO_3.out) hb); replace BK342 := yB_ BK342 hb; replace BK351 := yB_ BK351 hb; replace HB := y2_ hb; (try clear hb); obtain ⟨z49_0, z49_1, z49_2, z49_3, z49_4, z49_5, z49_6, z49_7, z49_8, z49_9, y49_0, y49_1, y49_2, y49_3, y49_4, y49_5, y49_6, y49_7, y49_8, y49_9⟩ := cz10_ BK351.out; obtain ⟨z50_0, z50_1, z50_2, z50_3, z50_4, z50_5, z50_6, z50_7, z50_8, z50_9, y50_0, y50_1, y50_2, y50_3, y50_4, y50_5, y50_6, y50_7, y50_8, y50_9⟩ := cz10_ BK342.out))
     refine bodyPost_ret (results_cell_row rfl _ _ gb342 64 #[.bool t346, .bool true, .bool t348, .bool t349, .bool x352004_7, .bool t350, .int .i64 t354, .int .i64 t355, .int .i64 t356, .int .i64 t357] (0, 0) _ rfl (G1_ BK342.out) Tryz.underlying64 rfl (by kernel_rfl)) rfl ?_
     exact ⟨E1_, W2_⟩
    ·
     replace c37 := Bool.eq_false_iff.mpr c37
     subst c37
     rw [if_neg (show ¬ (false = true) by decide)] at H
     simp only [Option.some.injEq, Prod.mk.injEq] at H
     obtain ⟨rfl, rfl, rfl, rfl, rfl, rfl, rfl, rfl, rfl, rfl⟩ := H
     go_wp2_with (first | ((with_reducible refine gate_callee (f := 57) rfl ?_); refine goesL_ (some 28) rfl rfl Tryz.func57 (by kernel_rfl) rfl #[.slice Ao11 t343.length co11, .string (⟨#[109, 97, 120, 45, 97, 103, 101]⟩ : ByteArray), .int .i64 0, .int .i64 0, .bool false] rfl T1_ ?_; (with_reducible refine (pantryref04_told.calls kj7 _ _ t343 (⟨#[109, 97, 120, 45, 97, 103, 101]⟩ : ByteArray) 0 0 false t354 _ ?side1 ?side2 A30.out).mono ?_); (case side1 => exact C1_ ((Kd.R_reads' HO_3.out).2.2)); (case side2 => exact (Kd.R_reads' HO_3.out).2.1); rintro e w51 ⟨rfl, hb⟩; refine ⟨_, rfl, ?_⟩; replace HO_3 := Aside0.mk (Kd.R_below (R1_ HO_3.out) hb); replace BK342 := yB_ BK342 hb; replace BK351 := yB_ BK351 hb; replace HB := y2_ hb; (try clear hb); have hnb52 := NB351_342.out; have hnc52 := NB342_351.out; obtain ⟨z53_0, z53_1, z53_2, z53_3, z53_4, z53_5, z53_6, z53_7, z53_8, z53_9, y53_0, y53_1, y53_2, y53_3, y53_4, y53_5, y53_6, y53_7, y53_8, y53_9⟩ := cz10_ BK351.out) | ((with_reducible refine gate_callee (f := 57) rfl ?_); refine goesL_ (some 31) rfl rfl Tryz.func57 (by kernel_rfl) rfl #[.slice Ao11 t343.length co11, .string (⟨#[115, 45, 109, 97, 120, 97, 103, 101]⟩ : ByteArray), .int .i64 0, .int .i64 0, .bool false] rfl T1_ ?_; (with_reducible refine (pantryref04_told.calls kj7 _ _ t343 (⟨#[115, 45, 109, 97, 120, 97, 103, 101]⟩ : ByteArray) 0 0 false t355 _ ?side1 ?side2 A31.out).mono ?_); (case side1 => refine (Kd.R_reads' (e := 9) (base := w.heap.size) (ok := fun k_ => True) (n := t343.length) (c := co11) ?_).2.2; exact (by refine R1_ ?_; exact (Kd.R_mono (Kd.R_far (p := ⟨gb351, 6, none⟩) (Kd.R_types HO_3.out BK351.out (by decide)) (fun _ hk => hk.2) (.int .i64 t354)) (fun _ h_ => h_.1)))); (case side2 => exact (Kd.R_reads' HO_3.out).2.1); rintro e w54 ⟨rfl, hb⟩; refine ⟨_, rfl, ?_⟩; replace HO_3 := Aside0.mk (Kd.R_below (by refine R1_ ?_; exact (Kd.R_mono (Kd.R_far (p := ⟨gb351, 6, none⟩) (Kd.R_types HO_3.out BK351.out (by decide)) (fun _ hk => hk.2) (.int .i64 t354)) (fun _ h_ => h_.1))) hb); replace BK342 := Aside0.mk (blk_below (g := gb342) (o := .cells #[.bool false, .bool false, .bool false, .bool false, .bool false, .bool false, .int .i64 0, .int .i64 0, .int .i64 0, .int .i64 0] 64 (0, 0)) (G1_ BK342.out) hb); replace BK351 := Aside0.mk (blk_below (g := gb351) (o := .cells #[.bool t346, .bool t347, .bool t348, .bool t349, .bool x352004_7, .bool t350, .int .i64 t354, .int .i64 0, .int .i64 0, .int .i64 0] 64 (0, 0)) (G1_ BK351.out) hb); replace HB := y2_ hb; (try clear hb); (try clear hk); obtain ⟨z55_0, z55_1, z55_2, z55_3, z55_4, z55_5, z55_6, z55_7, z55_8, z55_9, y55_0, y55_1, y55_2, y55_3, y55_4, y55_5, y55_6, y55_7, y55_8, y55_9⟩ := cz10_ BK351.out) | ((with_reducible refine gate_callee (f := 57) rfl ?_); refine goesL_ (some 34) rfl rfl Tryz.func57 (by kernel_rfl) rfl #[.slice Ao11 t343.length co11, .string (⟨#[109, 105, 110, 45, 102, 114, 101, 115, 104]⟩ : ByteArray), .int .i64 2147483648, .int .i64 2147483648, .bool true] rfl T1_ ?_; (with_reducible refine (pantryref04_told.calls kj7 _ _ t343 (⟨#[109, 105, 110, 45, 102, 114, 101, 115, 104]⟩ : ByteArray) 2147483648 2147483648 true t356 _ ?side1 ?side2 A32.out).mono ?_); (case side1 => refine (Kd.R_reads' (e := 9) (base := w.heap.size) (ok := fun k_ => True) (n := t343.length) (c := co11) ?_).2.2; exact (by refine R1_ ?_; exact (Kd.R_mono (Kd.R_far (p := ⟨gb351, 7, none⟩) (Kd.R_types HO_3.out BK351.out (by decide)) (fun _ hk => hk.2) (.int .i64 t355)) (fun _ h_ => h_.1)))); (case side2 => exact (Kd.R_reads' HO_3.out).2.1); rintro e w56 ⟨rfl, hb⟩; refine ⟨_, rfl, ?_⟩; replace HO_3 := Aside0.mk (Kd.R_below (by refine R1_ ?_; exact (Kd.R_mono (Kd.R_far (p := ⟨gb351, 7, none⟩) (Kd.R_types HO_3.out BK351.out (by decide)) (fun _ hk => hk.2) (.int .i64 t355)) (fun _ h_ => h_.1))) hb); replace BK342 := Aside0.mk (blk_below (g := gb342) (o := .cells #[.bool false, .bool false, .bool false, .bool false, .bool false, .bool false, .int .i64 0, .int .i64 0, .int .i64 0, .int .i64 0] 64 (0, 0)) (G1_ BK342.out) hb); replace BK351 := Aside0.mk (blk_below (g := gb351) (o := .cells #[.bool t346, .bool t347, .bool t348, .bool t349, .bool x352004_7, .bool t350, .int .i64 t354, .int .i64 t355, .int .i64 0, .int .i64 0] 64 (0, 0)) (G1_ BK351.out) hb); replace HB := y2_ hb; (try clear hb); (try clear hk); obtain ⟨z57_0, z57_1, z57_2, z57_3, z57_4, z57_5, z57_6, z57_7, z57_8, z57_9, y57_0, y57_1, y57_2, y57_3, y57_4, y57_5, y57_6, y57_7, y57_8, y57_9⟩ := cz10_ BK351.out) | ((with_reducible refine gate_callee (f := 57) rfl ?_); refine goesL_ (some 37) rfl rfl Tryz.func57 (by kernel_rfl) rfl #[.slice Ao11 t343.length co11, .string (⟨#[109, 97, 120, 45, 115, 116, 97, 108, 101]⟩ : ByteArray), .int .i64 0, .int .i64 2147483648, .bool false] rfl T1_ ?_; (with_reducible refine (pantryref04_told.calls kj7 _ _ t343 (⟨#[109, 97, 120, 45, 115, 116, 97, 108, 101]⟩ : ByteArray) 0 2147483648 false t357 _ ?side1 ?side2 A33.out).mono ?_); (case side1 => refine (Kd.R_reads' (e := 9) (base := w.heap.size) (ok := fun k_ => True) (n := t343.length) (c := co11) ?_).2.2; exact (by refine R1_ ?_; exact (Kd.R_mono (Kd.R_far (p := ⟨gb351, 8, none⟩) (Kd.R_types HO_3.out BK351.out (by decide)) (fun _ hk => hk.2) (.int .i64 t356)) (fun _ h_ => h_.1)))); (case side2 => exact (Kd.R_reads' HO_3.out).2.1); rintro e w58 ⟨rfl, hb⟩; refine ⟨_, rfl, ?_⟩; replace HO_3 := Aside0.mk (Kd.R_below (by refine R1_ ?_; exact (Kd.R_mono (Kd.R_far (p := ⟨gb351, 8, none⟩) (Kd.R_types HO_3.out BK351.out (by decide)) (fun _ hk => hk.2) (.int .i64 t356)) (fun _ h_ => h_.1))) hb); replace BK342 := Aside0.mk (blk_below (g := gb342) (o := .cells #[.bool false, .bool false, .bool false, .bool false, .bool false, .bool false, .int .i64 0, .int .i64 0, .int .i64 0, .int .i64 0] 64 (0, 0)) (G1_ BK342.out) hb); replace BK351 := Aside0.mk (blk_below (g := gb351) (o := .cells #[.bool t346, .bool t347, .bool t348, .bool t349, .bool x352004_7, .bool t350, .int .i64 t354, .int .i64 t355, .int .i64 t356, .int .i64 0] 64 (0, 0)) (G1_ BK351.out) hb); replace HB := y2_ hb; (try clear hb); (try clear hk); obtain ⟨z59_0, z59_1, z59_2, z59_3, z59_4, z59_5, z59_6, z59_7, z59_8, z59_9, y59_0, y59_1, y59_2, y59_3, y59_4, y59_5, y59_6, y59_7, y59_8, y59_9⟩ := cz10_ BK351.out) | ((with_reducible refine gate_callee (f := 32) rfl ?_); refine goesL_ (some 41) rfl rfl Tryz.func32 (by kernel_rfl) rfl #[.slice A0 l0.length c0, .string (⟨#[99, 97, 99, 104, 101, 45, 99, 111, 110, 116, 114, 111, 108]⟩ : ByteArray)] rfl T1_ ?_; (with_reducible refine (pantryref03_Get.calls kj7 _ _ l0 (⟨#[99, 97, 99, 104, 101, 45, 99, 111, 110, 116, 114, 111, 108]⟩ : ByteArray) t358 t359 _ ?side1 ?side2 A34.out).mono ?_); (case side1 => exact Kd.C_below HR0.out W2_); (case side2 => exact HC0.out); rintro e w60 ⟨rfl, hb⟩; refine ⟨_, rfl, ?_⟩; replace HO_3 := Aside0.mk (Kd.R_below (by refine R1_ ?_; exact (Kd.R_mono (Kd.R_far (p := ⟨gb351, 9, none⟩) (Kd.R_types HO_3.out BK351.out (by decide)) (fun _ hk => hk.2) (.int .i64 t357)) (fun _ h_ => h_.1))) hb); replace BK342 := Aside0.mk (blk_below (g := gb342) (o := .cells #[.bool false, .bool false, .bool false, .bool false, .bool false, .bool false, .int .i64 0, .int .i64 0, .int .i64 0, .int .i64 0] 64 (0, 0)) (G1_ BK342.out) hb); replace BK351 := Aside0.mk (blk_below (g := gb351) (o := .cells #[.bool t346, .bool t347, .bool t348, .bool t349, .bool x352004_7, .bool t350, .int .i64 t354, .int .i64 t355, .int .i64 t356, .int .i64 t357] 64 (0, 0)) (G1_ BK351.out) hb); replace HB := y2_ hb; (try clear hb); (try clear hk)) | (go_at_call 58; (with_reducible refine (pantryref03_Has.calls kj7 _ _ l0 (⟨#[112, 114, 97, 103, 109, 97]⟩ : ByteArray) (⟨#[110, 111, 45, 99, 97, 99, 104, 101]⟩ : ByteArray) false _ ?side1 ?side2 A36.out).mono ?_); (case side1 => exact C1_ ((Kd.C_below HR0.out HB.out))); (case side2 => exact HC0.out); rintro e w61 ⟨rfl, hb⟩; replace HO_3 := Aside0.mk (Kd.R_below (R1_ HO_3.out) hb); replace BK342 := yB_ BK342 hb; replace BK351 := yB_ BK351 hb; replace HB := y2_ hb; (try clear hb); obtain ⟨z62_0, z62_1, z62_2, z62_3, z62_4, z62_5, z62_6, z62_7, z62_8, z62_9, y62_0, y62_1, y62_2, y62_3, y62_4, y62_5, y62_6, y62_7, y62_8, y62_9⟩ := cz10_ BK351.out; obtain ⟨z63_0, z63_1, z63_2, z63_3, z63_4, z63_5, z63_6, z63_7, z63_8, z63_9, y63_0, y63_1, y63_2, y63_3, y63_4, y63_5, y63_6, y63_7, y63_8, y63_9⟩ := cz10_ BK342.out))
     refine bodyPost_ret (results_cell_row rfl _ _ gb342 64 #[.bool t346, .bool t347, .bool t348, .bool t349, .bool x352004_7, .bool t350, .int .i64 t354, .int .i64 t355, .int .i64 t356, .int .i64 t357] (0, 0) _ rfl (G1_ BK342.out) Tryz.underlying64 rfl (by kernel_rfl)) rfl ?_
     exact ⟨E1_, W2_⟩
   ·
    rw [if_neg c35] at H
    have c35b0 : (t359 == 0) = false := beq_eq_false_iff_ne.mpr c35
    have c35b1 : (t359 != 0) = true := bne_iff_ne.mpr c35
    simp only [Option.some.injEq, Prod.mk.injEq] at H
    obtain ⟨rfl, rfl, rfl, rfl, rfl, rfl, rfl, rfl, rfl, rfl⟩ := H
    go_wp2_with (first | ((with_reducible refine gate_callee (f := 57) rfl ?_); refine goesL_ (some 28) rfl rfl Tryz.func57 (by kernel_rfl) rfl #[.slice Ao11 t343.length co11, .string (⟨#[109, 97, 120, 45, 97, 103, 101]⟩ : ByteArray), .int .i64 0, .int .i64 0, .bool false] rfl T1_ ?_; (with_reducible refine (pantryref04_told.calls kj7 _ _ t343 (⟨#[109, 97, 120, 45, 97, 103, 101]⟩ : ByteArray) 0 0 false t354 _ ?side1 ?side2 A30.out).mono ?_); (case side1 => exact C1_ ((Kd.R_reads' HO_3.out).2.2)); (case side2 => exact (Kd.R_reads' HO_3.out).2.1); rintro e w64 ⟨rfl, hb⟩; refine ⟨_, rfl, ?_⟩; replace HO_3 := Aside0.mk (Kd.R_below (R1_ HO_3.out) hb); replace BK342 := yB_ BK342 hb; replace BK351 := yB_ BK351 hb; replace HB := y2_ hb; (try clear hb); have hnb65 := NB351_342.out; have hnc65 := NB342_351.out; obtain ⟨z66_0, z66_1, z66_2, z66_3, z66_4, z66_5, z66_6, z66_7, z66_8, z66_9, y66_0, y66_1, y66_2, y66_3, y66_4, y66_5, y66_6, y66_7, y66_8, y66_9⟩ := cz10_ BK351.out) | ((with_reducible refine gate_callee (f := 57) rfl ?_); refine goesL_ (some 31) rfl rfl Tryz.func57 (by kernel_rfl) rfl #[.slice Ao11 t343.length co11, .string (⟨#[115, 45, 109, 97, 120, 97, 103, 101]⟩ : ByteArray), .int .i64 0, .int .i64 0, .bool false] rfl T1_ ?_; (with_reducible refine (pantryref04_told.calls kj7 _ _ t343 (⟨#[115, 45, 109, 97, 120, 97, 103, 101]⟩ : ByteArray) 0 0 false t355 _ ?side1 ?side2 A31.out).mono ?_); (case side1 => refine (Kd.R_reads' (e := 9) (base := w.heap.size) (ok := fun k_ => True) (n := t343.length) (c := co11) ?_).2.2; exact (by refine R1_ ?_; exact (Kd.R_mono (Kd.R_far (p := ⟨gb351, 6, none⟩) (Kd.R_types HO_3.out BK351.out (by decide)) (fun _ hk => hk.2) (.int .i64 t354)) (fun _ h_ => h_.1)))); (case side2 => exact (Kd.R_reads' HO_3.out).2.1); rintro e w67 ⟨rfl, hb⟩; refine ⟨_, rfl, ?_⟩; replace HO_3 := Aside0.mk (Kd.R_below (by refine R1_ ?_; exact (Kd.R_mono (Kd.R_far (p := ⟨gb351, 6, none⟩) (Kd.R_types HO_3.out BK351.out (by decide)) (fun _ hk => hk.2) (.int .i64 t354)) (fun _ h_ => h_.1))) hb); replace BK342 := Aside0.mk (blk_below (g := gb342) (o := .cells #[.bool false, .bool false, .bool false, .bool false, .bool false, .bool false, .int .i64 0, .int .i64 0, .int .i64 0, .int .i64 0] 64 (0, 0)) (G1_ BK342.out) hb); replace BK351 := Aside0.mk (blk_below (g := gb351) (o := .cells #[.bool t346, .bool t347, .bool t348, .bool t349, .bool x352004_7, .bool t350, .int .i64 t354, .int .i64 0, .int .i64 0, .int .i64 0] 64 (0, 0)) (G1_ BK351.out) hb); replace HB := y2_ hb; (try clear hb); (try clear hk); obtain ⟨z68_0, z68_1, z68_2, z68_3, z68_4, z68_5, z68_6, z68_7, z68_8, z68_9, y68_0, y68_1, y68_2, y68_3, y68_4, y68_5, y68_6, y68_7, y68_8, y68_9⟩ := cz10_ BK351.out) | ((with_reducible refine gate_callee (f := 57) rfl ?_); refine goesL_ (some 34) rfl rfl Tryz.func57 (by kernel_rfl) rfl #[.slice Ao11 t343.length co11, .string (⟨#[109, 105, 110, 45, 102, 114, 101, 115, 104]⟩ : ByteArray), .int .i64 2147483648, .int .i64 2147483648, .bool true] rfl T1_ ?_; (with_reducible refine (pantryref04_told.calls kj7 _ _ t343 (⟨#[109, 105, 110, 45, 102, 114, 101, 115, 104]⟩ : ByteArray) 2147483648 2147483648 true t356 _ ?side1 ?side2 A32.out).mono ?_); (case side1 => refine (Kd.R_reads' (e := 9) (base := w.heap.size) (ok := fun k_ => True) (n := t343.length) (c := co11) ?_).2.2; exact (by refine R1_ ?_; exact (Kd.R_mono (Kd.R_far (p := ⟨gb351, 7, none⟩) (Kd.R_types HO_3.out BK351.out (by decide)) (fun _ hk => hk.2) (.int .i64 t355)) (fun _ h_ => h_.1)))); (case side2 => exact (Kd.R_reads' HO_3.out).2.1); rintro e w69 ⟨rfl, hb⟩; refine ⟨_, rfl, ?_⟩; replace HO_3 := Aside0.mk (Kd.R_below (by refine R1_ ?_; exact (Kd.R_mono (Kd.R_far (p := ⟨gb351, 7, none⟩) (Kd.R_types HO_3.out BK351.out (by decide)) (fun _ hk => hk.2) (.int .i64 t355)) (fun _ h_ => h_.1))) hb); replace BK342 := Aside0.mk (blk_below (g := gb342) (o := .cells #[.bool false, .bool false, .bool false, .bool false, .bool false, .bool false, .int .i64 0, .int .i64 0, .int .i64 0, .int .i64 0] 64 (0, 0)) (G1_ BK342.out) hb); replace BK351 := Aside0.mk (blk_below (g := gb351) (o := .cells #[.bool t346, .bool t347, .bool t348, .bool t349, .bool x352004_7, .bool t350, .int .i64 t354, .int .i64 t355, .int .i64 0, .int .i64 0] 64 (0, 0)) (G1_ BK351.out) hb); replace HB := y2_ hb; (try clear hb); (try clear hk); obtain ⟨z70_0, z70_1, z70_2, z70_3, z70_4, z70_5, z70_6, z70_7, z70_8, z70_9, y70_0, y70_1, y70_2, y70_3, y70_4, y70_5, y70_6, y70_7, y70_8, y70_9⟩ := cz10_ BK351.out) | ((with_reducible refine gate_callee (f := 57) rfl ?_); refine goesL_ (some 37) rfl rfl Tryz.func57 (by kernel_rfl) rfl #[.slice Ao11 t343.length co11, .string (⟨#[109, 97, 120, 45, 115, 116, 97, 108, 101]⟩ : ByteArray), .int .i64 0, .int .i64 2147483648, .bool false] rfl T1_ ?_; (with_reducible refine (pantryref04_told.calls kj7 _ _ t343 (⟨#[109, 97, 120, 45, 115, 116, 97, 108, 101]⟩ : ByteArray) 0 2147483648 false t357 _ ?side1 ?side2 A33.out).mono ?_); (case side1 => refine (Kd.R_reads' (e := 9) (base := w.heap.size) (ok := fun k_ => True) (n := t343.length) (c := co11) ?_).2.2; exact (by refine R1_ ?_; exact (Kd.R_mono (Kd.R_far (p := ⟨gb351, 8, none⟩) (Kd.R_types HO_3.out BK351.out (by decide)) (fun _ hk => hk.2) (.int .i64 t356)) (fun _ h_ => h_.1)))); (case side2 => exact (Kd.R_reads' HO_3.out).2.1); rintro e w71 ⟨rfl, hb⟩; refine ⟨_, rfl, ?_⟩; replace HO_3 := Aside0.mk (Kd.R_below (by refine R1_ ?_; exact (Kd.R_mono (Kd.R_far (p := ⟨gb351, 8, none⟩) (Kd.R_types HO_3.out BK351.out (by decide)) (fun _ hk => hk.2) (.int .i64 t356)) (fun _ h_ => h_.1))) hb); replace BK342 := Aside0.mk (blk_below (g := gb342) (o := .cells #[.bool false, .bool false, .bool false, .bool false, .bool false, .bool false, .int .i64 0, .int .i64 0, .int .i64 0, .int .i64 0] 64 (0, 0)) (G1_ BK342.out) hb); replace BK351 := Aside0.mk (blk_below (g := gb351) (o := .cells #[.bool t346, .bool t347, .bool t348, .bool t349, .bool x352004_7, .bool t350, .int .i64 t354, .int .i64 t355, .int .i64 t356, .int .i64 0] 64 (0, 0)) (G1_ BK351.out) hb); replace HB := y2_ hb; (try clear hb); (try clear hk); obtain ⟨z72_0, z72_1, z72_2, z72_3, z72_4, z72_5, z72_6, z72_7, z72_8, z72_9, y72_0, y72_1, y72_2, y72_3, y72_4, y72_5, y72_6, y72_7, y72_8, y72_9⟩ := cz10_ BK351.out) | ((with_reducible refine gate_callee (f := 32) rfl ?_); refine goesL_ (some 41) rfl rfl Tryz.func32 (by kernel_rfl) rfl #[.slice A0 l0.length c0, .string (⟨#[99, 97, 99, 104, 101, 45, 99, 111, 110, 116, 114, 111, 108]⟩ : ByteArray)] rfl T1_ ?_; (with_reducible refine (pantryref03_Get.calls kj7 _ _ l0 (⟨#[99, 97, 99, 104, 101, 45, 99, 111, 110, 116, 114, 111, 108]⟩ : ByteArray) t358 t359 _ ?side1 ?side2 A34.out).mono ?_); (case side1 => exact Kd.C_below HR0.out W2_); (case side2 => exact HC0.out); rintro e w73 ⟨rfl, hb⟩; refine ⟨_, rfl, ?_⟩; replace HO_3 := Aside0.mk (Kd.R_below (by refine R1_ ?_; exact (Kd.R_mono (Kd.R_far (p := ⟨gb351, 9, none⟩) (Kd.R_types HO_3.out BK351.out (by decide)) (fun _ hk => hk.2) (.int .i64 t357)) (fun _ h_ => h_.1))) hb); replace BK342 := Aside0.mk (blk_below (g := gb342) (o := .cells #[.bool false, .bool false, .bool false, .bool false, .bool false, .bool false, .int .i64 0, .int .i64 0, .int .i64 0, .int .i64 0] 64 (0, 0)) (G1_ BK342.out) hb); replace BK351 := Aside0.mk (blk_below (g := gb351) (o := .cells #[.bool t346, .bool t347, .bool t348, .bool t349, .bool x352004_7, .bool t350, .int .i64 t354, .int .i64 t355, .int .i64 t356, .int .i64 t357] 64 (0, 0)) (G1_ BK351.out) hb); replace HB := y2_ hb; (try clear hb); (try clear hk); obtain ⟨z74_0, z74_1, z74_2, z74_3, z74_4, z74_5, z74_6, z74_7, z74_8, z74_9, y74_0, y74_1, y74_2, y74_3, y74_4, y74_5, y74_6, y74_7, y74_8, y74_9⟩ := cz10_ BK351.out; obtain ⟨z75_0, z75_1, z75_2, z75_3, z75_4, z75_5, z75_6, z75_7, z75_8, z75_9, y75_0, y75_1, y75_2, y75_3, y75_4, y75_5, y75_6, y75_7, y75_8, y75_9⟩ := cz10_ BK342.out))
    refine bodyPost_ret (results_cell_row rfl _ _ gb342 64 #[.bool t346, .bool t347, .bool t348, .bool t349, .bool x352004_7, .bool t350, .int .i64 t354, .int .i64 t355, .int .i64 t356, .int .i64 t357] (0, 0) _ rfl (G1_ BK342.out) Tryz.underlying64 rfl (by kernel_rfl)) rfl ?_
    exact ⟨E1_, W2_⟩

/-! ### pantryref11_put: function 60 -/
mutual
def pantryref11_put.l0 : Nat → List ByteArray → ByteArray → List ByteArray → Bool → Int → Option (List ByteArray)
 | 0, _, _, _, _, _ => none
 | k + 1, x0, x1, x5, x6, x7 => if x7 < (x0.length : Int) then (if x6 = true then (pantryref11_put.j1 k x0 x1 x5 x6 x7 false) else (if 0 ≤ x7 then (pantryref11_put.j1 k x0 x1 x5 x6 x7 (!(Op.bytesLess ((rdOf ByteArray.empty x0 x7).toList) x1.toList))) else (none))) else (if x6 = true then (some x5) else (if x5.length < 8796093022208 then (some (x5 ++ [x1])) else (none)))
def pantryref11_put.j1 : Nat → List ByteArray → ByteArray → List ByteArray → Bool → Int → Bool → Option (List ByteArray)
 | 0, _, _, _, _, _, _ => none
 | k + 1, x0, x1, x5, x6, x7, x23 => if x23 = true then (if 0 ≤ x7 then (if x7 < (x0.length : Int) then (if (rdOf ByteArray.empty x0 x7).toList = x1.toList then (if x5.length < 8796093022208 then (pantryref11_put.l0 k x0 x1 (x5 ++ [rdOf ByteArray.empty x0 x7]) true (wrap64 (x7 + 1))) else (none)) else (if x5.length < 8796093022208 then ((some (x5 ++ [x1] : List ByteArray)).bind fun y370 => (if y370.length < 8796093022208 then (pantryref11_put.l0 k x0 x1 (y370 ++ [rdOf ByteArray.empty x0 x7]) true (wrap64 (x7 + 1))) else (none))) else (none))) else (none)) else (none)) else (if 0 ≤ x7 then (if x7 < (x0.length : Int) then (if x5.length < 8796093022208 then (pantryref11_put.l0 k x0 x1 (x5 ++ [rdOf ByteArray.empty x0 x7]) x6 (wrap64 (x7 + 1))) else (none)) else (none)) else (none))
end
def pantryref11_put.f (k : Nat) (l0 : List ByteArray) (a1 : ByteArray) : Option (List ByteArray) := pantryref11_put.l0 k l0 a1 ([] : List ByteArray) false 0
theorem pantryref11_put.mono_l : ∀ k, (∀ y0 y1 y2 y3 y4, LeO (pantryref11_put.l0 k y0 y1 y2 y3 y4) (pantryref11_put.l0 (k + 1) y0 y1 y2 y3 y4)) ∧ (∀ y0 y1 y2 y3 y4 y5, LeO (pantryref11_put.j1 k y0 y1 y2 y3 y4 y5) (pantryref11_put.j1 (k + 1) y0 y1 y2 y3 y4 y5))
 | 0 => ⟨fun _ _ _ _ _ r h => by simp [pantryref11_put.l0] at h, fun _ _ _ _ _ _ r h => by simp [pantryref11_put.j1] at h⟩
 | k + 1 => by
  obtain ⟨ih0, ih1⟩ := pantryref11_put.mono_l k
  refine ⟨?_, ?_⟩
  ·
   intro y0 y1 y2 y3 y4
   unfold pantryref11_put.l0
   repeat' (with_reducible first | exact ih0 _ _ _ _ _ | exact ih1 _ _ _ _ _ _ | exact lR_ | refine LeO.ite ?_ ?_ | refine LeO.bind ?_ (fun _ => ?_))
  ·
   intro y0 y1 y2 y3 y4 y5
   unfold pantryref11_put.j1
   repeat' (with_reducible first | exact ih0 _ _ _ _ _ | exact ih1 _ _ _ _ _ _ | exact lR_ | refine LeO.ite ?_ ?_ | refine LeO.bind ?_ (fun _ => ?_))
theorem pantryref11_put.mono : ∀ a0 a1 k, LeO (pantryref11_put.f k a0 a1) (pantryref11_put.f (k + 1) a0 a1) := by
 intro a0 a1 k
 obtain ⟨ih0, ih1⟩ := pantryref11_put.mono_l k
 unfold pantryref11_put.f
 repeat' (with_reducible first | exact ih0 _ _ _ _ _ | exact ih1 _ _ _ _ _ _ | exact lR_ | refine LeO.ite ?_ ?_ | refine LeO.bind ?_ (fun _ => ?_))
set_option maxHeartbeats 8000000 in
set_option maxRecDepth 100000 in
theorem pantryref11_put.calls (k : Nat) (A0 : Option Addr) (c0 : Nat) (l0 : List ByteArray) (a1 : ByteArray) (r : List ByteArray) (w : World) (hr0 : Kd.C Kd.string w A0 l0.length l0) (hc0 : l0.length ≤ c0) (h : pantryref11_put.f k l0 a1 = some r) :
  Calls Tryz.prog 60 #[.slice A0 l0.length c0, .string a1] w fun e w' => ∃ v0_ : Value, e = .returned (v0_) ∧ Kd.R Kd.string 9 w' w.heap.size (fun _ => True) v0_ r ∧ Below w.heap.size w w' := by
 have HR0 := Aside0.mk hr0
 have HC0 := Aside0.mk hc0
 clear hr0 hc0
 have HB := Aside0.mk (Below.refl w.heap.size w)
 have H : (pantryref11_put.l0 k l0 a1 ([] : List ByteArray) false 0) = some r := h
 clear h
 have H' := Aside0.mk H
 clear H
 go_enter Tryz.func60, Tryz.ntmps60
 go_wp2
 go_loopg [5, 6, 7] k (fun kq v5 v6 v7 w' => ∃ (x5_1 : List ByteArray) (x6_1 : Bool) (x7_1 : Int), v6 = .bool x6_1 ∧ v7 = .int .i64 x7_1 ∧ Aside0 (pantryref11_put.l0 kq l0 a1 x5_1 x6_1 x7_1 = some r) ∧ Aside0 (kq ≤ k) ∧ Aside0 (Kd.R Kd.string 9 w' w.heap.size (fun _ => True) v5 x5_1) ∧ Aside0 (Below w.heap.size w w'))
 case atStart => exact ⟨(([] : List ByteArray)), (false), (0), E3_, E3_, H', ⟨Nat.le_refl _⟩, ⟨by first | exact Kd.R_nil _ _ _ _ _ | exact Kd.N_nil _ _ _ _ _ | exact Kd.V_nil _ _ _ _ _ | exact Kd.Q_nil _ _ _ _ _ | exact Kd.S_nil _ _ _ _ _⟩, ⟨W1_⟩⟩
 case round =>
  clear H'
  obtain ⟨x5_1, x6_1, x7_1, rfl, rfl, HA, HK1, HO_5, HB⟩ := hrel
  cases gk with
  | zero => exact absurd HA.out (by simp [pantryref11_put.l0])
  | succ k1 =>
   have H := HA.out
   clear HA
   simp only [pantryref11_put.l0] at H
   by_cases c3 : x7_1 < (l0.length : Int)
   ·
    rw [if_pos c3] at H
    have c3b0 : decide (x7_1 < (l0.length : Int)) = true := decide_eq_true c3
    clear c3
    have HC4 := Aside0.mk H
    clear H
    go_upto_region 6 with (fail)
    go_cut [23] (fun v23 wc => ∃ (kq : Nat) (x23_3 : Bool), v23 = .bool x23_3 ∧ Aside0 (pantryref11_put.j1 kq l0 a1 x5_1 x6_1 x7_1 x23_3 = some r) ∧ Aside0 (kq ≤ k1) ∧ Aside0 (Kd.R Kd.string 9 wc w.heap.size (fun _ => True) u5 x5_1) ∧ Aside0 (Below w.heap.size w wc))
    case first =>
     have H := HC4.out
     clear HC4
     by_cases c5 : x6_1 = true
     ·
      subst c5
      rw [if_pos rfl] at H
      have H' := Aside0.mk H
      clear H
      go_wp2
      go_meet
      case rel => exact ⟨_, (false), E3_, H', ⟨by have := HK1.out; first | omega | exact Nat.le_refl _⟩, ⟨R1_ HO_5.out⟩, ⟨W1_⟩⟩
     ·
      replace c5 := Bool.eq_false_iff.mpr c5
      subst c5
      rw [if_neg (show ¬ (false = true) by decide)] at H
      by_cases c6 : 0 ≤ x7_1
      ·
       rw [if_pos c6] at H
       have c6b0 : decide (0 ≤ x7_1) = true := decide_eq_true c6
       clear c6
       (first | rw [c6b0] | (simp only [i64_w, i32_w]; rw [c6b0]) | skip)
       have H' := Aside0.mk H
       clear H
       have p364 : 0 ≤ (x7_1 : Int) := oA_
       have q364 : x7_1 < (l0.length : Int) := oA_
       obtain ⟨ad364, e364, hx364_0⟩ := Kd.at_string HR0.out x7_1 p364 q364
       cases e364
       replace hx364_0 := (HB.out.cell (World.block_lt_of_cell? w _ hx364_0)).trans hx364_0
       replace p364 := eq_true p364
       replace q364 := eq_true q364
       go_wp2
       go_meet
       case rel => exact ⟨_, (!(Op.bytesLess ((rdOf ByteArray.empty l0 x7_1).toList) a1.toList)), E3_, H', ⟨by have := HK1.out; first | omega | exact Nat.le_refl _⟩, ⟨R1_ HO_5.out⟩, ⟨W1_⟩⟩
      ·
       rw [if_neg c6] at H
       exact absurd H (by simp)
    case rest =>
     clear HC4
     (try clear c3); (try clear c3b0); (try clear c5); (try clear c6); (try clear c6b0); (try clear hx364_0); (try clear p364); (try clear q364)
     obtain ⟨kq, x23_3, rfl, HA, HJ3, HO_5, HB⟩ := hcut
     cases kq with
     | zero => exact absurd HA.out (by simp [pantryref11_put.j1])
     | succ kj3 =>
      have H := HA.out
      clear HA
      simp only [pantryref11_put.j1] at H
      by_cases c7 : x23_3 = true
      ·
       subst c7
       rw [if_pos rfl] at H
       by_cases c8 : 0 ≤ x7_1
       ·
        rw [if_pos c8] at H
        have c8b0 : decide (0 ≤ x7_1) = true := decide_eq_true c8
        clear c8
        by_cases c9 : x7_1 < (l0.length : Int)
        ·
         rw [if_pos c9] at H
         have c9b0 : decide (x7_1 < (l0.length : Int)) = true := decide_eq_true c9
         clear c9
         by_cases c10 : (rdOf ByteArray.empty l0 x7_1).toList = a1.toList
         ·
          rw [if_pos c10] at H
          have c10b0 : ((rdOf ByteArray.empty l0 x7_1).toList == a1.toList) = true := beq_iff_eq.mpr c10
          have c10b1 : ((rdOf ByteArray.empty l0 x7_1).toList != a1.toList) = false := bne_eq_false_iff_eq.mpr c10
          clear c10
          by_cases c11 : x5_1.length < 8796093022208
          ·
           rw [if_pos c11] at H
           have LMc11 := Aside0.mk c11
           clear c11
           obtain ⟨y367, hy367⟩ : ∃ y_ : List ByteArray, y_ = (x5_1 ++ [rdOf ByteArray.empty l0 x7_1]) := ⟨_, rfl⟩
           replace H : (pantryref11_put.l0 kj3 l0 a1 y367 true (wrap64 (x7_1 + 1))) = some r := by first | (rw [hy367]; with_reducible exact H) | (have H2_ := (Option.bind_some _ _).symm.trans H; rw [hy367]; with_reducible exact H2_) | (have H2_ := (Option.bind_some _ _).symm.trans H; with_reducible exact H2_) | with_reducible exact H | (rw [hy367]; exact H) | exact H
           have Ny367 := Aside0.mk hy367
           clear hy367
           have H' := Aside0.mk H
           clear H
           have p365 : 0 ≤ (x7_1 : Int) := oA_
           have q365 : x7_1 < (l0.length : Int) := oA_
           obtain ⟨ad365, e365, hx365_0⟩ := Kd.at_string HR0.out x7_1 p365 q365
           cases e365
           replace hx365_0 := (HB.out.cell (World.block_lt_of_cell? w _ hx365_0)).trans hx365_0
           replace p365 := eq_true p365
           replace q365 := eq_true q365
           have p366 : 0 ≤ (x7_1 : Int) := oA_
           have q366 : x7_1 < (l0.length : Int) := oA_
           obtain ⟨ad366, e366, hx366_0⟩ := Kd.at_string HR0.out x7_1 p366 q366
           obtain rfl : ad365 = ad366 := (by injection e366)
           replace hx366_0 := (HB.out.cell (World.block_lt_of_cell? w _ hx366_0)).trans hx366_0
           replace p366 := eq_true p366
           replace q366 := eq_true q366
           go_wp2_with (first | ((with_reducible refine gate_builtin (b := .append) (xs := #[.tmp 34, .tmp 39]) rfl ?_); at_builtin; refine Kd.R_append Kd.string (w0 := w) w.heap.size rfl (.tmp 34) (.tmp 39) 22 9 (.string ⟨#[]⟩) 16 rfl Tryz.underlying22 info9 rfl (by decide) (by omega) u5 x5_1 (rdOf ByteArray.empty l0 x7_1) [.string (rdOf ByteArray.empty l0 x7_1)] (fun _ => True) (fun _ => False) rfl rfl ?aP (fun _ hk => hk.elim) ?aF ?aO ?aB ?aS ?aL ?_; (case aP => exact rfl); (case aB => exact W1_); (case aF => exact (fun _ _ => trivial)); (case aO => exact (R1_ HO_5.out)); (case aS => exact (below_size W1_)); (case aL => have := LMc11.out; omega); intro v368 w12 ho hb hg hat; rw [← Ny367.out] at ho; have n0_ := Aside0.mk (hb); have n1_ := Aside0.mk (ho); clear HB; clear HO_5; have HB := n0_; have HO369 := n1_; clear n0_ n1_; clear ho hb hg hat))
           go_roundg kj3
           case measure => have := HK1.out; have := HJ3.out; omega
           case rel => exact ⟨(y367), (true), (wrap64 (x7_1 + 1)), E3_, E3_, H', ⟨by have := HK1.out; have := HJ3.out; omega⟩, ⟨R1_ HO369.out⟩, ⟨W1_⟩⟩
          ·
           rw [if_neg c11] at H
           exact absurd H (by simp)
         ·
          rw [if_neg c10] at H
          have c10b0 : ((rdOf ByteArray.empty l0 x7_1).toList == a1.toList) = false := beq_eq_false_iff_ne.mpr c10
          have c10b1 : ((rdOf ByteArray.empty l0 x7_1).toList != a1.toList) = true := bne_iff_ne.mpr c10
          by_cases c13 : x5_1.length < 8796093022208
          ·
           rw [if_pos c13] at H
           have LMc13 := Aside0.mk c13
           clear c13
           obtain ⟨y370, hy370⟩ : ∃ y_ : List ByteArray, y_ = (x5_1 ++ [a1]) := ⟨_, rfl⟩
           replace H : (if y370.length < 8796093022208 then (pantryref11_put.l0 kj3 l0 a1 (y370 ++ [rdOf ByteArray.empty l0 x7_1]) true (wrap64 (x7_1 + 1))) else (none)) = some r := by first | (rw [hy370]; with_reducible exact H) | (have H2_ := (Option.bind_some _ _).symm.trans H; rw [hy370]; with_reducible exact H2_) | (have H2_ := (Option.bind_some _ _).symm.trans H; with_reducible exact H2_) | with_reducible exact H | (rw [hy370]; exact H) | exact H
           have Ny370 := Aside0.mk hy370
           clear hy370
           by_cases c14 : y370.length < 8796093022208
           ·
            rw [if_pos c14] at H
            have LMc14 := Aside0.mk c14
            clear c14
            obtain ⟨y374, hy374⟩ : ∃ y_ : List ByteArray, y_ = (y370 ++ [rdOf ByteArray.empty l0 x7_1]) := ⟨_, rfl⟩
            replace H : (pantryref11_put.l0 kj3 l0 a1 y374 true (wrap64 (x7_1 + 1))) = some r := by first | (rw [hy374]; with_reducible exact H) | (have H2_ := (Option.bind_some _ _).symm.trans H; rw [hy374]; with_reducible exact H2_) | (have H2_ := (Option.bind_some _ _).symm.trans H; with_reducible exact H2_) | with_reducible exact H | (rw [hy374]; exact H) | exact H
            have Ny374 := Aside0.mk hy374
            clear hy374
            have H' := Aside0.mk H
            clear H
            have p365 : 0 ≤ (x7_1 : Int) := oA_
            have q365 : x7_1 < (l0.length : Int) := oA_
            obtain ⟨ad365, e365, hx365_0⟩ := Kd.at_string HR0.out x7_1 p365 q365
            cases e365
            replace hx365_0 := (HB.out.cell (World.block_lt_of_cell? w _ hx365_0)).trans hx365_0
            replace p365 := eq_true p365
            replace q365 := eq_true q365
            go_wp2_with (first | ((with_reducible refine gate_builtin (b := .append) (xs := #[.tmp 30, .tmp 32]) rfl ?_); at_builtin; refine Kd.R_append Kd.string (w0 := w) w.heap.size rfl (.tmp 30) (.tmp 32) 22 9 (.string ⟨#[]⟩) 16 rfl Tryz.underlying22 info9 rfl (by decide) (by omega) u5 x5_1 a1 [.string a1] (fun _ => True) (fun _ => False) rfl rfl ?aP (fun _ hk => hk.elim) ?aF ?aO ?aB ?aS ?aL ?_; (case aP => exact rfl); (case aB => exact W1_); (case aF => exact (fun _ _ => trivial)); (case aO => exact (R1_ HO_5.out)); (case aS => exact (below_size W1_)); (case aL => have := LMc13.out; omega); intro v371 w15 ho hb hg hat; rw [← Ny370.out] at ho; have n0_ := Aside0.mk (hb); have n1_ := Aside0.mk (ho); clear HB; clear HO_5; have HB := n0_; have HO372 := n1_; clear n0_ n1_; clear ho hb hg hat; have p373 : 0 ≤ (x7_1 : Int) := oA_; have q373 : x7_1 < (l0.length : Int) := oA_; obtain ⟨ad373, e373, hx373_0⟩ := Kd.at_string HR0.out x7_1 p373 q373; obtain rfl : ad365 = ad373 := (by injection e373); replace hx373_0 := (HB.out.cell (World.block_lt_of_cell? w _ hx373_0)).trans hx373_0; replace p373 := eq_true p373; replace q373 := eq_true q373) | ((with_reducible refine gate_builtin (b := .append) (xs := #[.tmp 34, .tmp 39]) rfl ?_); at_builtin; refine Kd.R_append Kd.string (w0 := w) w.heap.size rfl (.tmp 34) (.tmp 39) 22 9 (.string ⟨#[]⟩) 16 rfl Tryz.underlying22 info9 rfl (by decide) (by omega) v371 y370 (rdOf ByteArray.empty l0 x7_1) [.string (rdOf ByteArray.empty l0 x7_1)] (fun _ => True) (fun _ => False) rfl rfl ?aP (fun _ hk => hk.elim) ?aF ?aO ?aB ?aS ?aL ?_; (case aP => exact rfl); (case aB => exact W1_); (case aF => exact (fun _ _ => trivial)); (case aO => exact (R1_ HO372.out)); (case aS => exact (below_size W1_)); (case aL => have := LMc14.out; omega); intro v375 w16 ho hb hg hat; rw [← Ny374.out] at ho; have n0_ := Aside0.mk (hb); have n1_ := Aside0.mk (ho); clear HB; clear HO372; have HB := n0_; have HO376 := n1_; clear n0_ n1_; clear ho hb hg hat))
            go_roundg kj3
            case measure => have := HK1.out; have := HJ3.out; omega
            case rel => exact ⟨(y374), (true), (wrap64 (x7_1 + 1)), E3_, E3_, H', ⟨by have := HK1.out; have := HJ3.out; omega⟩, ⟨R1_ HO376.out⟩, ⟨W1_⟩⟩
           ·
            rw [if_neg c14] at H
            exact absurd H (by simp)
          ·
           rw [if_neg c13] at H
           exact absurd H (by simp)
        ·
         rw [if_neg c9] at H
         exact absurd H (by simp)
       ·
        rw [if_neg c8] at H
        exact absurd H (by simp)
      ·
       replace c7 := Bool.eq_false_iff.mpr c7
       subst c7
       rw [if_neg (show ¬ (false = true) by decide)] at H
       by_cases c17 : 0 ≤ x7_1
       ·
        rw [if_pos c17] at H
        have c17b0 : decide (0 ≤ x7_1) = true := decide_eq_true c17
        clear c17
        by_cases c18 : x7_1 < (l0.length : Int)
        ·
         rw [if_pos c18] at H
         have c18b0 : decide (x7_1 < (l0.length : Int)) = true := decide_eq_true c18
         clear c18
         by_cases c19 : x5_1.length < 8796093022208
         ·
          rw [if_pos c19] at H
          have LMc19 := Aside0.mk c19
          clear c19
          obtain ⟨y378, hy378⟩ : ∃ y_ : List ByteArray, y_ = (x5_1 ++ [rdOf ByteArray.empty l0 x7_1]) := ⟨_, rfl⟩
          replace H : (pantryref11_put.l0 kj3 l0 a1 y378 x6_1 (wrap64 (x7_1 + 1))) = some r := by first | (rw [hy378]; with_reducible exact H) | (have H2_ := (Option.bind_some _ _).symm.trans H; rw [hy378]; with_reducible exact H2_) | (have H2_ := (Option.bind_some _ _).symm.trans H; with_reducible exact H2_) | with_reducible exact H | (rw [hy378]; exact H) | exact H
          have Ny378 := Aside0.mk hy378
          clear hy378
          have H' := Aside0.mk H
          clear H
          have p377 : 0 ≤ (x7_1 : Int) := oA_
          have q377 : x7_1 < (l0.length : Int) := oA_
          obtain ⟨ad377, e377, hx377_0⟩ := Kd.at_string HR0.out x7_1 p377 q377
          cases e377
          replace hx377_0 := (HB.out.cell (World.block_lt_of_cell? w _ hx377_0)).trans hx377_0
          replace p377 := eq_true p377
          replace q377 := eq_true q377
          go_wp2_with (first | ((with_reducible refine gate_builtin (b := .append) (xs := #[.tmp 34, .tmp 39]) rfl ?_); at_builtin; refine Kd.R_append Kd.string (w0 := w) w.heap.size rfl (.tmp 34) (.tmp 39) 22 9 (.string ⟨#[]⟩) 16 rfl Tryz.underlying22 info9 rfl (by decide) (by omega) u5 x5_1 (rdOf ByteArray.empty l0 x7_1) [.string (rdOf ByteArray.empty l0 x7_1)] (fun _ => True) (fun _ => False) rfl rfl ?aP (fun _ hk => hk.elim) ?aF ?aO ?aB ?aS ?aL ?_; (case aP => exact rfl); (case aB => exact W1_); (case aF => exact (fun _ _ => trivial)); (case aO => exact (R1_ HO_5.out)); (case aS => exact (below_size W1_)); (case aL => have := LMc19.out; omega); intro v379 w20 ho hb hg hat; rw [← Ny378.out] at ho; have n0_ := Aside0.mk (hb); have n1_ := Aside0.mk (ho); clear HB; clear HO_5; have HB := n0_; have HO380 := n1_; clear n0_ n1_; clear ho hb hg hat))
          go_roundg kj3
          case measure => have := HK1.out; have := HJ3.out; omega
          case rel => exact ⟨(y378), (x6_1), (wrap64 (x7_1 + 1)), E3_, E3_, H', ⟨by have := HK1.out; have := HJ3.out; omega⟩, ⟨R1_ HO380.out⟩, ⟨W1_⟩⟩
         ·
          rw [if_neg c19] at H
          exact absurd H (by simp)
        ·
         rw [if_neg c18] at H
         exact absurd H (by simp)
       ·
        rw [if_neg c17] at H
        exact absurd H (by simp)
   ·
    rw [if_neg c3] at H
    have c3b0 : decide (x7_1 < (l0.length : Int)) = false := decide_eq_false c3
    clear c3
    by_cases c21 : x6_1 = true
    ·
     subst c21
     rw [if_pos rfl] at H
     obtain rfl := Option.some.inj H
     go_wp2
     go_ret
     exact ⟨_, E1_, by refine R1_ ?_; exact HO_5.out, W1_⟩
    ·
     replace c21 := Bool.eq_false_iff.mpr c21
     subst c21
     rw [if_neg (show ¬ (false = true) by decide)] at H
     by_cases c22 : x5_1.length < 8796093022208
     ·
      rw [if_pos c22] at H
      have LMc22 := Aside0.mk c22
      clear c22
      obtain ⟨y361, hy361⟩ : ∃ y_ : List ByteArray, y_ = (x5_1 ++ [a1]) := ⟨_, rfl⟩
      replace H : (some y361) = some r := by first | (rw [hy361]; with_reducible exact H) | (have H2_ := (Option.bind_some _ _).symm.trans H; rw [hy361]; with_reducible exact H2_) | (have H2_ := (Option.bind_some _ _).symm.trans H; with_reducible exact H2_) | with_reducible exact H | (rw [hy361]; exact H) | exact H
      have Ny361 := Aside0.mk hy361
      clear hy361
      obtain rfl := Option.some.inj H
      go_wp2_with (first | ((with_reducible refine gate_builtin (b := .append) (xs := #[.tmp 43, .tmp 45]) rfl ?_); at_builtin; refine Kd.R_append Kd.string (w0 := w) w.heap.size rfl (.tmp 43) (.tmp 45) 22 9 (.string ⟨#[]⟩) 16 rfl Tryz.underlying22 info9 rfl (by decide) (by omega) u5 x5_1 a1 [.string a1] (fun _ => True) (fun _ => False) rfl rfl ?aP (fun _ hk => hk.elim) ?aF ?aO ?aB ?aS ?aL ?_; (case aP => exact rfl); (case aB => exact W1_); (case aF => exact (fun _ _ => trivial)); (case aO => exact (R1_ HO_5.out)); (case aS => exact (below_size W1_)); (case aL => have := LMc22.out; omega); intro v362 w23 ho hb hg hat; rw [← Ny361.out] at ho; have n0_ := Aside0.mk (hb); have n1_ := Aside0.mk (ho); clear HB; clear HO_5; have HB := n0_; have HO363 := n1_; clear n0_ n1_; clear ho hb hg hat))
      go_ret
      exact ⟨_, E1_, by refine R1_ ?_; exact HO363.out, W1_⟩
     ·
      rw [if_neg c22] at H
      exact absurd H (by simp)

/-! ### pantryref11_Names: function 33 -/
def pantryref11_Names.l0 : Nat → List ByteArray → List ByteArray → Bool → Int → Option (List ByteArray × Bool)
 | 0, _, _, _, _ => none
 | k + 1, x4, x5, x6, x7 => if x7 < (x4.length : Int) then (if 0 ≤ x7 then (if (rdOf ByteArray.empty x4 x7).toList = ([42] : List UInt8) then (pantryref11_Names.l0 k x4 x5 true (wrap64 (x7 + 1))) else ((pantryref01_Lower.f k (rdOf ByteArray.empty x4 x7)).bind fun t386 => ((pantryref11_put.f k x5 t386).bind fun t387 => (pantryref11_Names.l0 k x4 t387 x6 (wrap64 (x7 + 1)))))) else (none)) else (some (x5, x6))
def pantryref11_Names.f (k : Nat) (l0 : List (S70)) : Option (List ByteArray × Bool) := (pantryref03_Elements.f k l0 (⟨#[118, 97, 114, 121]⟩ : ByteArray)).bind fun t381 => (pantryref11_Names.l0 k t381 ([] : List ByteArray) false 0)
theorem pantryref11_Names.mono_l : ∀ k, (∀ y0 y1 y2 y3, LeO (pantryref11_Names.l0 k y0 y1 y2 y3) (pantryref11_Names.l0 (k + 1) y0 y1 y2 y3))
 | 0 => fun _ _ _ _ r h => by simp [pantryref11_Names.l0] at h
 | k + 1 => by
  have ih0 := pantryref11_Names.mono_l k
  ·
   intro y0 y1 y2 y3
   unfold pantryref11_Names.l0
   repeat' (with_reducible first | exact ih0 _ _ _ _ | exact pantryref01_Lower.mono _ _ | exact pantryref03_Elements.mono _ _ _ | exact pantryref11_put.mono _ _ _ | exact lR_ | refine LeO.ite ?_ ?_ | refine LeO.bind ?_ (fun _ => ?_))
theorem pantryref11_Names.mono : ∀ a0 k, LeO (pantryref11_Names.f k a0) (pantryref11_Names.f (k + 1) a0) := by
 intro a0 k
 have ih0 := pantryref11_Names.mono_l k
 unfold pantryref11_Names.f
 repeat' (with_reducible first | exact ih0 _ _ _ _ | exact pantryref01_Lower.mono _ _ | exact pantryref03_Elements.mono _ _ _ | exact pantryref11_put.mono _ _ _ | exact lR_ | refine LeO.ite ?_ ?_ | refine LeO.bind ?_ (fun _ => ?_))
set_option maxHeartbeats 8000000 in
set_option maxRecDepth 100000 in
theorem pantryref11_Names.calls (k : Nat) (A0 : Option Addr) (c0 : Nat) (l0 : List (S70)) (r1 : List ByteArray) (r2 : Bool) (w : World) (hr0 : Kd.C k70 w A0 l0.length l0) (hc0 : l0.length ≤ c0) (h : pantryref11_Names.f k l0 = some (r1, r2)) :
  Calls Tryz.prog 33 #[.slice A0 l0.length c0] w fun e w' => ∃ v0_ : Value, e = .returned (.tuple #[v0_, .bool r2]) ∧ Kd.R Kd.string 9 w' w.heap.size (fun _ => True) v0_ r1 ∧ Below w.heap.size w w' := by
 have HR0 := Aside0.mk hr0
 have HC0 := Aside0.mk hc0
 clear hr0 hc0
 have HB := Aside0.mk (Below.refl w.heap.size w)
 have H : ((pantryref03_Elements.f k l0 (⟨#[118, 97, 114, 121]⟩ : ByteArray)).bind fun t381 => (pantryref11_Names.l0 k t381 ([] : List ByteArray) false 0)) = some (r1, r2) := h
 clear h
 obtain ⟨t381, A2, H⟩ := bS_ H
 try dsimp only at H
 have H' := Aside0.mk H
 clear H
 go_enter Tryz.func33, Tryz.ntmps33
 go_wp2_with (first | ((with_reducible refine gate_callee (f := 55) rfl ?_); refine goesL_ (some 9) rfl rfl Tryz.func55 (by kernel_rfl) rfl #[.slice A0 l0.length c0, .string (⟨#[118, 97, 114, 121]⟩ : ByteArray)] rfl T1_ ?_; (with_reducible refine (pantryref03_Elements.calls k _ _ l0 (⟨#[118, 97, 114, 121]⟩ : ByteArray) t381 _ ?side1 ?side2 A2.out).mono ?_); (case side1 => exact C1_ (HR0.out)); (case side2 => exact HC0.out); rintro e w3 ⟨v382, rfl, ho0, hb⟩; refine ⟨_, rfl, ?_⟩; have HO383 := Aside0.mk (Kd.R_lower ho0 (below_size W1_)); replace HB := y1_ hb; (try clear hb); (try clear ho0)))
 go_loopg [5, 6, 7] k (fun kq v5 v6 v7 w' => ∃ (x5_1 : List ByteArray) (x6_1 : Bool) (x7_1 : Int), v6 = .bool x6_1 ∧ v7 = .int .i64 x7_1 ∧ Aside0 (pantryref11_Names.l0 kq t381 x5_1 x6_1 x7_1 = some (r1, r2)) ∧ Aside0 (kq ≤ k) ∧ Aside0 (Kd.R Kd.string 9 w' w.heap.size (fun k_ => some k_ ≠ (v5 : Value).ownBlock) v382 t381) ∧ Aside0 (Kd.R Kd.string 9 w' w.heap.size (fun k_ => some k_ ≠ (v382 : Value).ownBlock) v5 x5_1) ∧ Aside0 (Below w.heap.size w w'))
 case atStart => exact ⟨(([] : List ByteArray)), (false), (0), E3_, E3_, H', ⟨Nat.le_refl _⟩, ⟨by refine R1_ ?_; exact Kd.R_mono HO383.out (fun _ hk => (by simp [Value.ownBlock]))⟩, ⟨by first | exact Kd.R_nil _ _ _ _ _ | exact Kd.N_nil _ _ _ _ _ | exact Kd.V_nil _ _ _ _ _ | exact Kd.Q_nil _ _ _ _ _ | exact Kd.S_nil _ _ _ _ _⟩, ⟨W1_⟩⟩
 case round =>
  clear H'
  obtain ⟨x5_1, x6_1, x7_1, rfl, rfl, HA, HK1, HO_4, HO_5, HB⟩ := hrel
  cases gk with
  | zero => exact absurd HA.out (by simp [pantryref11_Names.l0])
  | succ k1 =>
   have H := HA.out
   clear HA
   simp only [pantryref11_Names.l0] at H
   by_cases c4 : x7_1 < (t381.length : Int)
   ·
    rw [if_pos c4] at H
    have c4b0 : decide (x7_1 < (t381.length : Int)) = true := decide_eq_true c4
    clear c4
    by_cases c5 : 0 ≤ x7_1
    ·
     rw [if_pos c5] at H
     have c5b0 : decide (0 ≤ x7_1) = true := decide_eq_true c5
     clear c5
     by_cases c6 : (rdOf ByteArray.empty t381 x7_1).toList = ([42] : List UInt8)
     ·
      rw [if_pos c6] at H
      have c6b0 : ((rdOf ByteArray.empty t381 x7_1).toList == ([42] : List UInt8)) = true := beq_iff_eq.mpr c6
      have c6b1 : ((rdOf ByteArray.empty t381 x7_1).toList != ([42] : List UInt8)) = false := bne_eq_false_iff_eq.mpr c6
      clear c6
      have H' := Aside0.mk H
      clear H
      obtain ⟨Ao7, co7, eo7⟩ := Kd.R_slice HO_4.out
      subst eo7
      have p384 : 0 ≤ (x7_1 : Int) := oA_
      have q384 : x7_1 < (t381.length : Int) := oA_
      obtain ⟨ad384, e384, hx384_0⟩ := Kd.at_string (Kd.R_reads' HO_4.out).2.2 x7_1 p384 q384
      cases e384
      replace p384 := eq_true p384
      replace q384 := eq_true q384
      go_wp2
      go_roundg k1
      case measure => have := HK1.out; omega
      case rel => exact ⟨(x5_1), (true), (wrap64 (x7_1 + 1)), E3_, E3_, H', ⟨by have := HK1.out; omega⟩, ⟨R1_ HO_4.out⟩, ⟨R1_ HO_5.out⟩, ⟨W1_⟩⟩
     ·
      rw [if_neg c6] at H
      have c6b0 : ((rdOf ByteArray.empty t381 x7_1).toList == ([42] : List UInt8)) = false := beq_eq_false_iff_ne.mpr c6
      have c6b1 : ((rdOf ByteArray.empty t381 x7_1).toList != ([42] : List UInt8)) = true := bne_iff_ne.mpr c6
      obtain ⟨t386, A8, H⟩ := bS_ H
      try dsimp only at H
      obtain ⟨t387, A9, H⟩ := bS_ H
      try dsimp only at H
      have H' := Aside0.mk H
      clear H
      obtain ⟨Ao10, co10, eo10⟩ := Kd.R_slice HO_4.out
      subst eo10
      have p384 : 0 ≤ (x7_1 : Int) := oA_
      have q384 : x7_1 < (t381.length : Int) := oA_
      obtain ⟨ad384, e384, hx384_0⟩ := Kd.at_string (Kd.R_reads' HO_4.out).2.2 x7_1 p384 q384
      cases e384
      replace p384 := eq_true p384
      replace q384 := eq_true q384
      have p385 : 0 ≤ (x7_1 : Int) := oA_
      have q385 : x7_1 < (t381.length : Int) := oA_
      obtain ⟨ad385, e385, hx385_0⟩ := Kd.at_string (Kd.R_reads' HO_4.out).2.2 x7_1 p385 q385
      obtain rfl : ad384 = ad385 := (by injection e385)
      replace p385 := eq_true p385
      replace q385 := eq_true q385
      go_wp2_with (first | ((with_reducible refine gate_callee (f := 61) rfl ?_); refine goesL_ (some 26) rfl rfl Tryz.func61 (by kernel_rfl) rfl #[.string (rdOf ByteArray.empty t381 x7_1)] rfl T1_ ?_; (with_reducible refine (pantryref01_Lower.calls k1 (rdOf ByteArray.empty t381 x7_1) t386 _ A8.out).mono ?_); rintro e w11 ⟨rfl, hb⟩; refine ⟨_, rfl, ?_⟩; replace HO_4 := Aside0.mk (Kd.R_below (R1_ HO_4.out) hb); replace HO_5 := Aside0.mk (Kd.R_below (R1_ HO_5.out) hb); replace HB := y1_ hb; (try clear hb); obtain ⟨Ao12, co12, eo12⟩ := Kd.R_slice HO_5.out; subst eo12) | ((with_reducible refine gate_callee (f := 60) rfl ?_); refine goesL_ (some 27) rfl rfl Tryz.func60 (by kernel_rfl) rfl #[.slice Ao12 x5_1.length co12, .string t386] rfl T1_ ?_; (with_reducible refine (pantryref11_put.calls k1 _ _ x5_1 t386 t387 _ ?side1 ?side2 A9.out).mono ?_); (case side1 => exact C1_ ((Kd.R_reads' HO_5.out).2.2)); (case side2 => exact (Kd.R_reads' HO_5.out).2.1); rintro e w13 ⟨v388, rfl, ho0, hb⟩; refine ⟨_, rfl, ?_⟩; have HO389 := Aside0.mk (Kd.R_lower (Kd.R_new' (Kd.R_new' ho0 (Kd.R_lt (R1_ HO_4.out))) (Kd.R_lt (R1_ HO_5.out))) (below_size W1_)); replace HO_4 := Aside0.mk (Kd.R_elder' (R1_ HO_4.out) (Kd.R_base ho0) hb); replace HO_5 := Aside0.mk (Kd.R_elder' (R1_ HO_5.out) (Kd.R_base ho0) hb); replace HB := y1_ hb; (try clear hb); (try clear ho0)))
      go_roundg k1
      case measure => have := HK1.out; omega
      case rel => exact ⟨(t387), (x6_1), (wrap64 (x7_1 + 1)), E3_, E3_, H', ⟨by have := HK1.out; omega⟩, ⟨by refine R1_ ?_; exact Kd.R_mono HO_4.out (fun _ hk => hk.2)⟩, ⟨by refine R1_ ?_; exact Kd.R_mono HO389.out (fun _ hk => hk.1.2)⟩, ⟨W1_⟩⟩
    ·
     rw [if_neg c5] at H
     exact absurd H (by simp)
   ·
    rw [if_neg c4] at H
    have c4b0 : decide (x7_1 < (t381.length : Int)) = false := decide_eq_false c4
    clear c4
    simp only [Option.some.injEq, Prod.mk.injEq] at H
    obtain ⟨rfl, rfl⟩ := H
    obtain ⟨Ao14, co14, eo14⟩ := Kd.R_slice HO_4.out
    subst eo14
    go_wp2
    go_ret2
    exact ⟨_, E1_, by refine R1_ ?_; exact Kd.R_mono HO_5.out (fun _ hk => trivial), W1_⟩

end Go.Proofs.YtgpekljckdgggaaGreatDoor.PAll
