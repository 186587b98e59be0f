import Derived.Test.YtgpekljckdgggaaGreatDoorPAllx0
import Derived.Test.YtgpekljckdgggaaGreatDoorPAllx12
namespace Go.Proofs.YtgpekljckdgggaaGreatDoor.PAll
open Go.RowKit Go.Proofs.YtgpekljckdgggaaGreatDoorW.PrintWords Go.Proofs.YtgpekljckdgggaaGreatDoorW.PrintLast Go.Proofs.YtgpekljckdgggaaGreatDoorW.PrintMore
attribute [local go_sem] max2_int min2_int max_two min_two max_three min_three max_four min_four   -- for this text's walks alone
set_option linter.unusedVariables false
set_option linter.unusedSimpArgs false

/-! ### pantryref03_Field_Is: function 59 -/
def pantryref03_Field_Is.f (k : Nat) (a0_0 : ByteArray) (a0_1 : ByteArray) (a1 : ByteArray) : Option (Bool) := (pantryref01_Lower.f k a0_0).bind fun t286 => ((pantryref01_Lower.f k a1).bind fun t287 => (some (t286.toList == t287.toList)))
theorem pantryref03_Field_Is.mono : ∀ a0 a1 a2 k, LeO (pantryref03_Field_Is.f k a0 a1 a2) (pantryref03_Field_Is.f (k + 1) a0 a1 a2) := by
 intro a0 a1 a2 k
 unfold pantryref03_Field_Is.f
 repeat' (with_reducible first | exact pantryref01_Lower.mono _ _ | exact lR_ | refine LeO.ite ?_ ?_ | refine LeO.bind ?_ (fun _ => ?_))
set_option maxHeartbeats 8000000 in
set_option maxRecDepth 100000 in
theorem pantryref03_Field_Is.calls (k : Nat) (a0_0 : ByteArray) (a0_1 : ByteArray) (a1 : ByteArray) (r : Bool) (w : World) (h : pantryref03_Field_Is.f k a0_0 a0_1 a1 = some r) :
  Calls Tryz.prog 59 #[.agg #[.string a0_0, .string a0_1], .string a1] w fun e w' => e = .returned (.bool r) ∧ Below w.heap.size w w' := by
 have hu70 := Tryz.underlying70
 have HB := Aside0.mk (Below.refl w.heap.size w)
 have H : ((pantryref01_Lower.f k a0_0).bind fun t286 => ((pantryref01_Lower.f k a1).bind fun t287 => (some (t286.toList == t287.toList)))) = some r := h
 clear h
 obtain ⟨t286, A3, H⟩ := bS_ H
 try dsimp only at H
 obtain ⟨t287, A4, H⟩ := bS_ H
 try dsimp only at H
 obtain rfl := Option.some.inj H
 go_enter Tryz.func59, Tryz.ntmps59
 go_wp2_with (first | ((with_reducible refine gate_dst (N := 2) rfl ?_); refine box_event ?hg (N := 2) ?hd (cs := #[.string a0_0, .string a0_1]) (t := 70) ?hr ?_; (case hd | hg => rfl); (case hr => exact S1_); intro gb285 hg w5 hbox hb; have BK285 := Aside0.mk (hbox); have GW285 := Aside0.mk ((Z1_ : w.heap.size ≤ gb285)); have GE285 := Aside0.mk ((Z1_ : w.heap.size ≤ gb285)); replace HB := y1_ hb; clear hb hbox hg; obtain ⟨z6_0, z6_1, y6_0, y6_1⟩ := cz2_ BK285.out) | ((with_reducible refine gate_callee (f := 61) rfl ?_); refine goesL_ (some 7) rfl rfl Tryz.func61 (by kernel_rfl) rfl #[.string a0_0] rfl T1_ ?_; (with_reducible refine (pantryref01_Lower.calls k a0_0 t286 _ A3.out).mono ?_); rintro e w7 ⟨rfl, hb⟩; refine ⟨_, rfl, ?_⟩; replace BK285 := yB_ BK285 hb; replace HB := y2_ hb; (try clear hb)) | ((with_reducible refine gate_callee (f := 61) rfl ?_); refine goesL_ (some 9) rfl rfl Tryz.func61 (by kernel_rfl) rfl #[.string a1] rfl T1_ ?_; (with_reducible refine (pantryref01_Lower.calls k a1 t287 _ A4.out).mono ?_); rintro e w8 ⟨rfl, hb⟩; refine ⟨_, rfl, ?_⟩; replace BK285 := yB_ BK285 hb; replace HB := y2_ hb; (try clear hb)))
 go_ret
 exact ⟨E1_, W2_⟩

/-! ### pantryref03_Get: function 32 -/
def pantryref03_Get.l0 : Nat → List (S70) → ByteArray → ByteArray → Int → Int → Option (ByteArray × Int)
 | 0, _, _, _, _, _ => none
 | k + 1, x0, x1, x6, x7, x8 => if x8 < (x0.length : Int) then (if 0 ≤ x8 then ((pantryref03_Field_Is.f k ((rd_T70 x0 x8).f0) ((rd_T70 x0 x8).f1) x1).bind fun t289 => (if t289 = true then (if x7 > 0 then (if x6.size + 2 ≤ 9223372036854775807 then (if (x6 ++ (⟨#[44, 32]⟩ : ByteArray)).size + ((rd_T70 x0 x8).f1).size ≤ 9223372036854775807 then (pantryref03_Get.l0 k x0 x1 ((x6 ++ (⟨#[44, 32]⟩ : ByteArray)) ++ ((rd_T70 x0 x8).f1)) (wrap64 (x7 + 1)) (wrap64 (x8 + 1))) else (none)) else (none)) else (if x6.size + ((rd_T70 x0 x8).f1).size ≤ 9223372036854775807 then (pantryref03_Get.l0 k x0 x1 (x6 ++ ((rd_T70 x0 x8).f1)) (wrap64 (x7 + 1)) (wrap64 (x8 + 1))) else (none))) else (pantryref03_Get.l0 k x0 x1 x6 x7 (wrap64 (x8 + 1))))) else (none)) else (some (x6, x7))
def pantryref03_Get.f (k : Nat) (l0 : List (S70)) (a1 : ByteArray) : Option (ByteArray × Int) := pantryref03_Get.l0 k l0 a1 (⟨#[]⟩ : ByteArray) 0 0
theorem pantryref03_Get.mono_l : ∀ k, (∀ y0 y1 y2 y3 y4, LeO (pantryref03_Get.l0 k y0 y1 y2 y3 y4) (pantryref03_Get.l0 (k + 1) y0 y1 y2 y3 y4))
 | 0 => fun _ _ _ _ _ r h => by simp [pantryref03_Get.l0] at h
 | k + 1 => by
  have ih0 := pantryref03_Get.mono_l k
  ·
   intro y0 y1 y2 y3 y4
   unfold pantryref03_Get.l0
   repeat' (with_reducible first | exact ih0 _ _ _ _ _ | exact pantryref03_Field_Is.mono _ _ _ _ | exact lR_ | refine LeO.ite ?_ ?_ | refine LeO.bind ?_ (fun _ => ?_))
theorem pantryref03_Get.mono : ∀ a0 a1 k, LeO (pantryref03_Get.f k a0 a1) (pantryref03_Get.f (k + 1) a0 a1) := by
 intro a0 a1 k
 have ih0 := pantryref03_Get.mono_l k
 unfold pantryref03_Get.f
 repeat' (with_reducible first | exact ih0 _ _ _ _ _ | exact pantryref03_Field_Is.mono _ _ _ _ | exact lR_ | refine LeO.ite ?_ ?_ | refine LeO.bind ?_ (fun _ => ?_))
set_option maxHeartbeats 8000000 in
set_option maxRecDepth 100000 in
theorem pantryref03_Get.calls (k : Nat) (A0 : Option Addr) (c0 : Nat) (l0 : List (S70)) (a1 : ByteArray) (r1 : ByteArray) (r2 : Int) (w : World) (hr0 : Kd.C k70 w A0 l0.length l0) (hc0 : l0.length ≤ c0) (h : pantryref03_Get.f k l0 a1 = some (r1, r2)) :
  Calls Tryz.prog 32 #[.slice A0 l0.length c0, .string a1] w fun e w' => e = .returned (.tuple #[.string r1, .int .i64 r2]) ∧ Below w.heap.size w w' := by
 have hu70 := Tryz.underlying70
 have HR0 := Aside0.mk hr0
 have HC0 := Aside0.mk hc0
 clear hr0 hc0
 have HB := Aside0.mk (Below.refl w.heap.size w)
 have H : (pantryref03_Get.l0 k l0 a1 (⟨#[]⟩ : ByteArray) 0 0) = some (r1, r2) := h
 clear h
 have H' := Aside0.mk H
 clear H
 go_enter Tryz.func32, Tryz.ntmps32
 go_wp2
 go_loopg [6, 7, 8] k (fun kq v6 v7 v8 w' => ∃ (x6_1 : ByteArray) (x7_1 : Int) (x8_1 : Int), v6 = .string x6_1 ∧ v7 = .int .i64 x7_1 ∧ v8 = .int .i64 x8_1 ∧ Aside0 (pantryref03_Get.l0 kq l0 a1 x6_1 x7_1 x8_1 = some (r1, r2)) ∧ Aside0 (kq ≤ k) ∧ Aside0 (Below w.heap.size w w'))
 case atStart => exact ⟨((⟨#[]⟩ : ByteArray)), (0), (0), E3_, E3_, E3_, H', ⟨Nat.le_refl _⟩, ⟨W1_⟩⟩
 case round =>
  clear H'
  obtain ⟨x6_1, x7_1, x8_1, rfl, rfl, rfl, HA, HK1, HB⟩ := hrel
  cases gk with
  | zero => exact absurd HA.out (by simp [pantryref03_Get.l0])
  | succ k1 =>
   have H := HA.out
   clear HA
   simp only [pantryref03_Get.l0] at H
   by_cases c3 : x8_1 < (l0.length : Int)
   ·
    rw [if_pos c3] at H
    have c3b0 : decide (x8_1 < (l0.length : Int)) = true := decide_eq_true c3
    clear c3
    by_cases c4 : 0 ≤ x8_1
    ·
     rw [if_pos c4] at H
     have c4b0 : decide (0 ≤ x8_1) = true := decide_eq_true c4
     clear c4
     obtain ⟨t289, A5, H⟩ := bS_ H
     try dsimp only at H
     by_cases c6 : t289 = true
     ·
      subst c6
      rw [if_pos rfl] at H
      by_cases c7 : x7_1 > 0
      ·
       rw [if_pos c7] at H
       have c7b0 : decide (0 < x7_1) = true := decide_eq_true c7
       clear c7
       by_cases c8 : x6_1.size + 2 ≤ 9223372036854775807
       ·
        rw [if_pos c8] at H
        have c8b0 := eq_true c8
        have c8b1 : decide (x6_1.size + 2 ≤ 9223372036854775807) = true := decide_eq_true c8
        try have c8b2 : (9223372036854775807 < x6_1.size + 2) = False := eq_false (Nat.not_lt.2 c8)
        by_cases c9 : (x6_1 ++ (⟨#[44, 32]⟩ : ByteArray)).size + ((rd_T70 l0 x8_1).f1).size ≤ 9223372036854775807
        ·
         rw [if_pos c9] at H
         have c9b0 := eq_true c9
         have c9b1 : decide ((x6_1 ++ (⟨#[44, 32]⟩ : ByteArray)).size + ((rd_T70 l0 x8_1).f1).size ≤ 9223372036854775807) = true := decide_eq_true c9
         try have c9b2 : (9223372036854775807 < (x6_1 ++ (⟨#[44, 32]⟩ : ByteArray)).size + ((rd_T70 l0 x8_1).f1).size) = False := eq_false (Nat.not_lt.2 c9)
         try have c9b3 : (9223372036854775807 < (x6_1).size + 2 + ((rd_T70 l0 x8_1).f1).size) = False := by have h_ := c9; (simp only [ByteArray.size_append] at h_); exact eq_false (Nat.not_lt.2 h_)
         have H' := Aside0.mk H
         clear H
         have p288 : 0 ≤ (x8_1 : Int) := oA_
         have q288 : x8_1 < (l0.length : Int) := oA_
         obtain ⟨ad288, e288, hx288_0, hx288_1⟩ := at_T70 HR0.out x8_1 p288 q288
         cases e288
         replace hx288_0 := (HB.out.cell (World.block_lt_of_cell? w _ hx288_0)).trans hx288_0
         replace hx288_1 := (HB.out.cell (World.block_lt_of_cell? w _ hx288_1)).trans hx288_1
         replace p288 := eq_true p288
         replace q288 := eq_true q288
         go_wp2_with (first | ((with_reducible refine gate_callee (f := 59) rfl ?_); refine goesL_ (some 20) rfl rfl Tryz.func59 (by kernel_rfl) rfl #[.agg #[.string ((rd_T70 l0 x8_1).f0), .string ((rd_T70 l0 x8_1).f1)], .string a1] rfl T1_ ?_; (with_reducible refine (pantryref03_Field_Is.calls k1 ((rd_T70 l0 x8_1).f0) ((rd_T70 l0 x8_1).f1) a1 true _ A5.out).mono ?_); rintro e w10 ⟨rfl, hb⟩; refine ⟨_, rfl, ?_⟩; replace HB := y1_ hb; (try clear hb); have p290 : 0 ≤ (x8_1 : Int) := oA_; have q290 : x8_1 < (l0.length : Int) := oA_; obtain ⟨ad290, e290, hx290_0, hx290_1⟩ := at_T70 HR0.out x8_1 p290 q290; obtain rfl : ad288 = ad290 := (by injection e290); replace hx290_0 := (HB.out.cell (World.block_lt_of_cell? w _ hx290_0)).trans hx290_0; replace hx290_1 := (HB.out.cell (World.block_lt_of_cell? w _ hx290_1)).trans hx290_1; replace p290 := eq_true p290; replace q290 := eq_true q290))
         go_roundg k1
         case measure => have := HK1.out; omega
         case rel => exact ⟨((x6_1 ++ (⟨#[44, 32]⟩ : ByteArray)) ++ ((rd_T70 l0 x8_1).f1)), (wrap64 (x7_1 + 1)), (wrap64 (x8_1 + 1)), E3_, E3_, E3_, H', ⟨by have := HK1.out; omega⟩, ⟨W1_⟩⟩
        ·
         rw [if_neg c9] at H
         exact absurd H (by simp)
       ·
        rw [if_neg c8] at H
        exact absurd H (by simp)
      ·
       rw [if_neg c7] at H
       have c7b0 : decide (0 < x7_1) = false := decide_eq_false c7
       clear c7
       by_cases c11 : x6_1.size + ((rd_T70 l0 x8_1).f1).size ≤ 9223372036854775807
       ·
        rw [if_pos c11] at H
        have c11b0 := eq_true c11
        have c11b1 : decide (x6_1.size + ((rd_T70 l0 x8_1).f1).size ≤ 9223372036854775807) = true := decide_eq_true c11
        try have c11b2 : (9223372036854775807 < x6_1.size + ((rd_T70 l0 x8_1).f1).size) = False := eq_false (Nat.not_lt.2 c11)
        have H' := Aside0.mk H
        clear H
        have p288 : 0 ≤ (x8_1 : Int) := oA_
        have q288 : x8_1 < (l0.length : Int) := oA_
        obtain ⟨ad288, e288, hx288_0, hx288_1⟩ := at_T70 HR0.out x8_1 p288 q288
        cases e288
        replace hx288_0 := (HB.out.cell (World.block_lt_of_cell? w _ hx288_0)).trans hx288_0
        replace hx288_1 := (HB.out.cell (World.block_lt_of_cell? w _ hx288_1)).trans hx288_1
        replace p288 := eq_true p288
        replace q288 := eq_true q288
        go_wp2_with (first | ((with_reducible refine gate_callee (f := 59) rfl ?_); refine goesL_ (some 20) rfl rfl Tryz.func59 (by kernel_rfl) rfl #[.agg #[.string ((rd_T70 l0 x8_1).f0), .string ((rd_T70 l0 x8_1).f1)], .string a1] rfl T1_ ?_; (with_reducible refine (pantryref03_Field_Is.calls k1 ((rd_T70 l0 x8_1).f0) ((rd_T70 l0 x8_1).f1) a1 true _ A5.out).mono ?_); rintro e w12 ⟨rfl, hb⟩; refine ⟨_, rfl, ?_⟩; replace HB := y1_ hb; (try clear hb); have p291 : 0 ≤ (x8_1 : Int) := oA_; have q291 : x8_1 < (l0.length : Int) := oA_; obtain ⟨ad291, e291, hx291_0, hx291_1⟩ := at_T70 HR0.out x8_1 p291 q291; obtain rfl : ad288 = ad291 := (by injection e291); replace hx291_0 := (HB.out.cell (World.block_lt_of_cell? w _ hx291_0)).trans hx291_0; replace hx291_1 := (HB.out.cell (World.block_lt_of_cell? w _ hx291_1)).trans hx291_1; replace p291 := eq_true p291; replace q291 := eq_true q291))
        go_roundg k1
        case measure => have := HK1.out; omega
        case rel => exact ⟨(x6_1 ++ ((rd_T70 l0 x8_1).f1)), (wrap64 (x7_1 + 1)), (wrap64 (x8_1 + 1)), E3_, E3_, E3_, H', ⟨by have := HK1.out; omega⟩, ⟨W1_⟩⟩
       ·
        rw [if_neg c11] at H
        exact absurd H (by simp)
     ·
      replace c6 := Bool.eq_false_iff.mpr c6
      subst c6
      rw [if_neg (show ¬ (false = true) by decide)] at H
      have H' := Aside0.mk H
      clear H
      have p288 : 0 ≤ (x8_1 : Int) := oA_
      have q288 : x8_1 < (l0.length : Int) := oA_
      obtain ⟨ad288, e288, hx288_0, hx288_1⟩ := at_T70 HR0.out x8_1 p288 q288
      cases e288
      replace hx288_0 := (HB.out.cell (World.block_lt_of_cell? w _ hx288_0)).trans hx288_0
      replace hx288_1 := (HB.out.cell (World.block_lt_of_cell? w _ hx288_1)).trans hx288_1
      replace p288 := eq_true p288
      replace q288 := eq_true q288
      go_wp2_with (first | ((with_reducible refine gate_callee (f := 59) rfl ?_); refine goesL_ (some 20) rfl rfl Tryz.func59 (by kernel_rfl) rfl #[.agg #[.string ((rd_T70 l0 x8_1).f0), .string ((rd_T70 l0 x8_1).f1)], .string a1] rfl T1_ ?_; (with_reducible refine (pantryref03_Field_Is.calls k1 ((rd_T70 l0 x8_1).f0) ((rd_T70 l0 x8_1).f1) a1 false _ A5.out).mono ?_); rintro e w13 ⟨rfl, hb⟩; refine ⟨_, rfl, ?_⟩; replace HB := y1_ hb; (try clear hb)))
      go_roundg k1
      case measure => have := HK1.out; omega
      case rel => exact ⟨(x6_1), (x7_1), (wrap64 (x8_1 + 1)), E3_, E3_, E3_, H', ⟨by have := HK1.out; omega⟩, ⟨W1_⟩⟩
    ·
     rw [if_neg c4] at H
     exact absurd H (by simp)
   ·
    rw [if_neg c3] at H
    have c3b0 : decide (x8_1 < (l0.length : Int)) = false := decide_eq_false c3
    clear c3
    simp only [Option.some.injEq, Prod.mk.injEq] at H
    obtain ⟨rfl, rfl⟩ := H
    go_wp2
    go_ret2
    exact ⟨E1_, W1_⟩

/-! ### pantryref01_quoted: function 107 -/
mutual
def pantryref01_quoted.l0 : Nat → ByteArray → List Bool → Bool → Bool → Int → Option (List Bool)
 | 0, _, _, _, _, _ => none
 | k + 1, x0, x3, x4, x5, x6 => if x6 < (x0.size : Int) then (if x4 = true then (if 0 ≤ x6 then (if x6 < (x3.length : Int) then (pantryref01_quoted.j1 k x0 (x3.set (x6 : Int).toNat true) x4 x5 x6) else (none)) else (none)) else (if 0 ≤ x6 then (if x6 < (x3.length : Int) then (pantryref01_quoted.j1 k x0 (x3.set (x6 : Int).toNat ((bt x0 x6) == 34)) x4 x5 x6) else (none)) else (none))) else (some x3)
def pantryref01_quoted.j1 : Nat → ByteArray → List Bool → Bool → Bool → Int → Option (List Bool)
 | 0, _, _, _, _, _ => none
 | k + 1, x0, x3, x4, x5, x6 => if x5 = true then (pantryref01_quoted.l0 k x0 x3 x4 false (wrap64 (x6 + 1))) else (if x4 = true then (if 0 ≤ x6 then (if x6 < (x0.size : Int) then (pantryref01_quoted.j2 k x0 x3 x4 x5 x6 ((bt x0 x6) == 92)) else (none)) else (none)) else (pantryref01_quoted.j2 k x0 x3 x4 x5 x6 false))
def pantryref01_quoted.j2 : Nat → ByteArray → List Bool → Bool → Bool → Int → Bool → Option (List Bool)
 | 0, _, _, _, _, _, _ => none
 | k + 1, x0, x3, x4, x5, x6, x33 => if x33 = true then (pantryref01_quoted.l0 k x0 x3 x4 true (wrap64 (x6 + 1))) else (if 0 ≤ x6 then (if x6 < (x0.size : Int) then (if (bt x0 x6) = 34 then (pantryref01_quoted.l0 k x0 x3 (!x4) x5 (wrap64 (x6 + 1))) else (pantryref01_quoted.l0 k x0 x3 x4 x5 (wrap64 (x6 + 1)))) else (none)) else (none))
end
def pantryref01_quoted.f (k : Nat) (a0 : ByteArray) : Option (List Bool) := if 0 ≤ (a0.size : Int) then (if ((a0.size : Int) : Int).toNat ≤ 281474976710656 then (pantryref01_quoted.l0 k a0 (List.replicate ((a0.size : Int) : Int).toNat false) false false 0) else (none)) else (none)
theorem pantryref01_quoted.mono_l : ∀ k, (∀ y0 y1 y2 y3 y4, LeO (pantryref01_quoted.l0 k y0 y1 y2 y3 y4) (pantryref01_quoted.l0 (k + 1) y0 y1 y2 y3 y4)) ∧ (∀ y0 y1 y2 y3 y4, LeO (pantryref01_quoted.j1 k y0 y1 y2 y3 y4) (pantryref01_quoted.j1 (k + 1) y0 y1 y2 y3 y4)) ∧ (∀ y0 y1 y2 y3 y4 y5, LeO (pantryref01_quoted.j2 k y0 y1 y2 y3 y4 y5) (pantryref01_quoted.j2 (k + 1) y0 y1 y2 y3 y4 y5))
 | 0 => ⟨fun _ _ _ _ _ r h => by simp [pantryref01_quoted.l0] at h, fun _ _ _ _ _ r h => by simp [pantryref01_quoted.j1] at h, fun _ _ _ _ _ _ r h => by simp [pantryref01_quoted.j2] at h⟩
 | k + 1 => by
  obtain ⟨ih0, ih1, ih2⟩ := pantryref01_quoted.mono_l k
  refine ⟨?_, ?_, ?_⟩
  ·
   intro y0 y1 y2 y3 y4
   unfold pantryref01_quoted.l0
   repeat' (with_reducible first | exact ih0 _ _ _ _ _ | exact ih1 _ _ _ _ _ | exact ih2 _ _ _ _ _ _ | exact lR_ | refine LeO.ite ?_ ?_ | refine LeO.bind ?_ (fun _ => ?_))
  ·
   intro y0 y1 y2 y3 y4
   unfold pantryref01_quoted.j1
   repeat' (with_reducible first | exact ih0 _ _ _ _ _ | exact ih1 _ _ _ _ _ | exact ih2 _ _ _ _ _ _ | exact lR_ | refine LeO.ite ?_ ?_ | refine LeO.bind ?_ (fun _ => ?_))
  ·
   intro y0 y1 y2 y3 y4 y5
   unfold pantryref01_quoted.j2
   repeat' (with_reducible first | exact ih0 _ _ _ _ _ | exact ih1 _ _ _ _ _ | exact ih2 _ _ _ _ _ _ | exact lR_ | refine LeO.ite ?_ ?_ | refine LeO.bind ?_ (fun _ => ?_))
theorem pantryref01_quoted.mono : ∀ a0 k, LeO (pantryref01_quoted.f k a0) (pantryref01_quoted.f (k + 1) a0) := by
 intro a0 k
 obtain ⟨ih0, ih1, ih2⟩ := pantryref01_quoted.mono_l k
 unfold pantryref01_quoted.f
 repeat' (with_reducible first | exact ih0 _ _ _ _ _ | exact ih1 _ _ _ _ _ | exact ih2 _ _ _ _ _ _ | exact lR_ | refine LeO.ite ?_ ?_ | refine LeO.bind ?_ (fun _ => ?_))
set_option maxHeartbeats 8000000 in
set_option maxRecDepth 100000 in
theorem pantryref01_quoted.calls (k : Nat) (a0 : ByteArray) (r : List Bool) (w : World) (h : pantryref01_quoted.f k a0 = some r) :
  Calls Tryz.prog 107 #[.string a0] w fun e w' => ∃ v0_ : Value, e = .returned (v0_) ∧ Kd.R Kd.bool 4 w' w.heap.size (fun _ => True) v0_ r ∧ Below w.heap.size w w' := by
 have HB := Aside0.mk (Below.refl w.heap.size w)
 have H : (if 0 ≤ (a0.size : Int) then (if ((a0.size : Int) : Int).toNat ≤ 281474976710656 then (pantryref01_quoted.l0 k a0 (List.replicate ((a0.size : Int) : Int).toNat false) false false 0) else (none)) else (none)) = some r := h
 clear h
 by_cases c2 : 0 ≤ (a0.size : Int)
 ·
  rw [if_pos c2] at H
  have c2b0 := eq_true c2
  have c2b1 : decide (0 ≤ (a0.size : Int)) = true := decide_eq_true c2
  clear c2
  by_cases c3 : ((a0.size : Int) : Int).toNat ≤ 281474976710656
  ·
   rw [if_pos c3] at H
   have c3b0 := eq_true c3
   have c3b1 : decide (((a0.size : Int) : Int).toNat ≤ 281474976710656) = true := decide_eq_true c3
   clear c3
   obtain ⟨y292, hy292⟩ : ∃ y_ : List Bool, y_ = (List.replicate ((a0.size : Int) : Int).toNat false) := ⟨_, rfl⟩
   replace H : (pantryref01_quoted.l0 k a0 y292 false false 0) = some r := by first | (rw [hy292]; with_reducible exact H) | (have H2_ := (Option.bind_some _ _).symm.trans H; rw [hy292]; with_reducible exact H2_) | (have H2_ := (Option.bind_some _ _).symm.trans H; with_reducible exact H2_) | with_reducible exact H | (rw [hy292]; exact H) | exact H
   have Ny292 := Aside0.mk hy292
   clear hy292
   have H' := Aside0.mk H
   clear H
   go_enter Tryz.func107, Tryz.ntmps107
   go_wp2_with (first | ((with_reducible refine gate_dst (N := 9) rfl ?_); refine Kd.R_make Kd.bool _ 4 rfl (N := 9) rfl 145 _ _ rfl (a0.size : Int) rfl rfl Tryz.underlying145 (.bool false) 1 info4 rfl (by decide) (by omega) false (ok := fun _ => True) (okp := fun _ => True) rfl (fun _ hk => hk) trivial (oA_) (Nat.le_trans (Nat.mul_le_mul_right _ (oA_ : (a0.size : Int).toNat ≤ 281474976710656)) (by omega)) (Below.refl _ _) (Nat.le_refl _) ?_; intro v293 w4 ho5 hb hg_ hnew_; clear hg_ hnew_; (first | rw [← Ny292.out] at ho5 | (simp only [Int.reduceToNat] at ho5; rw [← Ny292.out] at ho5)); have HO294 := Aside0.mk (Kd.R_lower ho5 (below_size W1_)); replace HB := y1_ hb; clear hb ho5))
   go_loopg [4, 5, 6] k (fun kq v4 v5 v6 w' => ∃ (x3_1 : List Bool) (x4_1 : Bool) (x5_1 : Bool) (x6_1 : Int), v4 = .bool x4_1 ∧ v5 = .bool x5_1 ∧ v6 = .int .i64 x6_1 ∧ Aside0 (pantryref01_quoted.l0 kq a0 x3_1 x4_1 x5_1 x6_1 = some r) ∧ Aside0 (kq ≤ k) ∧ Aside0 (Kd.R Kd.bool 4 w' w.heap.size (fun _ => True) v293 x3_1) ∧ Aside0 (Below w.heap.size w w'))
   case atStart => exact ⟨(y292), (false), (false), (0), E3_, E3_, E3_, H', ⟨Nat.le_refl _⟩, ⟨R1_ HO294.out⟩, ⟨W1_⟩⟩
   case round =>
    clear H'
    (try clear c2); (try clear c2b0); (try clear c2b1); (try clear c3); (try clear c3b0); (try clear c3b1)
    obtain ⟨x3_1, x4_1, x5_1, x6_1, rfl, rfl, rfl, HA, HK1, HO_3, HB⟩ := hrel
    cases gk with
    | zero => exact absurd HA.out (by simp [pantryref01_quoted.l0])
    | succ k1 =>
     have H := HA.out
     clear HA
     simp only [pantryref01_quoted.l0] at H
     by_cases c6 : x6_1 < (a0.size : Int)
     ·
      rw [if_pos c6] at H
      have c6b0 : decide (x6_1 < (a0.size : Int)) = true := decide_eq_true c6
      clear c6
      have HC7 := Aside0.mk H
      clear H
      go_upto_region 7 with (fail)
      go_cut [] (fun wc => ∃ (kq : Nat) (x3_6 : List Bool), Aside0 (pantryref01_quoted.j1 kq a0 x3_6 x4_1 x5_1 x6_1 = some r) ∧ Aside0 (kq ≤ k1) ∧ Aside0 (Kd.R Kd.bool 4 wc w.heap.size (fun _ => True) v293 x3_6) ∧ Aside0 (Below w.heap.size w wc))
      case first =>
       have H := HC7.out
       clear HC7
       by_cases c8 : x4_1 = true
       ·
        subst c8
        rw [if_pos rfl] at H
        by_cases c9 : 0 ≤ x6_1
        ·
         rw [if_pos c9] at H
         have c9b0 : decide (0 ≤ x6_1) = true := decide_eq_true c9
         clear c9
         (first | rw [c9b0] | (simp only [i64_w, i32_w]; rw [c9b0]) | skip)
         by_cases c10 : x6_1 < (x3_1.length : Int)
         ·
          rw [if_pos c10] at H
          have c10b0 : decide (x6_1 < (x3_1.length : Int)) = true := decide_eq_true c10
          clear c10
          obtain ⟨y295, hy295⟩ : ∃ y_ : List Bool, y_ = (x3_1.set (x6_1 : Int).toNat true) := ⟨_, rfl⟩
          replace H : (pantryref01_quoted.j1 k1 a0 y295 true x5_1 x6_1) = some r := by first | (rw [hy295]; with_reducible exact H) | (have H2_ := (Option.bind_some _ _).symm.trans H; rw [hy295]; with_reducible exact H2_) | (have H2_ := (Option.bind_some _ _).symm.trans H; with_reducible exact H2_) | with_reducible exact H | (rw [hy295]; exact H) | exact H
          have Ny295 := Aside0.mk hy295
          clear hy295
          have H' := Aside0.mk H
          clear H
          have p11 : 0 ≤ (x6_1 : Int) := oA_
          have q11 : (x6_1 : Int) < ((x3_1.length : Int) : Int) := oA_
          obtain ⟨go11, co11, eo11, gb11, gl11, cl11, HG11⟩ := Kd.R_form HO_3.out (by omega)
          (first | cases eo11 | (injection eo11 with ea_ en_ ec_; (first | subst ea_ | (injection ea_ with ea_; subst ea_)); subst ec_; clear en_))
          have GB11 := Aside0.mk gb11
          have GG11 := Aside0.mk HG11
          clear gb11 gl11 HG11
          obtain ⟨hx11_0, hf11_0⟩ := Kd.R_celln false HO_3.out (x6_1 : Int) p11 q11
          replace p11 := eq_true p11
          replace q11 := eq_true q11
          have HP12 := Kd.R_putg HO_3.out (x6_1 : Int) true
          go_wp2_with (first | ((with_reducible refine gate_store (t := 4) (p := 25) rfl ?_); refine store_event (t := 4) (p := 25) (v := ?vo_w13) (w1 := (wr.setCell ⟨go11, (x6_1 : Int).toNat, none⟩ (.bool true))) ?hg ?ho ?hn ?hr ?_; (case ho => rfl); (case hg => rfl); (case hn => rfl); (case hr => first | (go_simp; done) | (go_simp; rfl)); intro w13 hw; have hg : wr.grownBy w13 (some go11) := (by rw [hw]; exact HP12.2); have hp_ : Kd.R Kd.bool 4 w13 w.heap.size (fun _ => True) (.slice (some ⟨go11, 0, none⟩) x3_1.length co11) y295 := (by rw [hw, Ny295.out]; exact HP12.1); clear HP12; replace HO_3 := Aside0.mk (hp_); replace HB := Aside0.mk ((by rw [hw]; exact below_set (HB.out) GB11.out : Below w.heap.size w w13)); clear hg hw hp_))
          go_meet
          case rel => exact ⟨_, (y295), H', ⟨by have := HK1.out; first | omega | exact Nat.le_refl _⟩, ⟨R1_ HO_3.out⟩, ⟨W1_⟩⟩
         ·
          rw [if_neg c10] at H
          exact absurd H (by simp)
        ·
         rw [if_neg c9] at H
         exact absurd H (by simp)
       ·
        replace c8 := Bool.eq_false_iff.mpr c8
        subst c8
        rw [if_neg (show ¬ (false = true) by decide)] at H
        by_cases c14 : 0 ≤ x6_1
        ·
         rw [if_pos c14] at H
         have c14b0 : decide (0 ≤ x6_1) = true := decide_eq_true c14
         clear c14
         by_cases c16 : x6_1 < (x3_1.length : Int)
         ·
          rw [if_pos c16] at H
          have c16b0 : decide (x6_1 < (x3_1.length : Int)) = true := decide_eq_true c16
          clear c16
          obtain ⟨y296, hy296⟩ : ∃ y_ : List Bool, y_ = (x3_1.set (x6_1 : Int).toNat ((bt a0 x6_1) == 34)) := ⟨_, rfl⟩
          replace H : (pantryref01_quoted.j1 k1 a0 y296 false x5_1 x6_1) = some r := by first | (rw [hy296]; with_reducible exact H) | (have H2_ := (Option.bind_some _ _).symm.trans H; rw [hy296]; with_reducible exact H2_) | (have H2_ := (Option.bind_some _ _).symm.trans H; with_reducible exact H2_) | with_reducible exact H | (rw [hy296]; exact H) | exact H
          have Ny296 := Aside0.mk hy296
          clear hy296
          have H' := Aside0.mk H
          clear H
          have p15 : 0 ≤ (x6_1 : Int) := oA_
          have q15 : x6_1 < (a0.size : Int) := oA_
          have hx15 := bt_at a0 x6_1
          replace p15 := eq_true p15
          replace q15 := eq_true q15
          have p17 : 0 ≤ (x6_1 : Int) := oA_
          have q17 : (x6_1 : Int) < ((x3_1.length : Int) : Int) := oA_
          obtain ⟨go17, co17, eo17, gb17, gl17, cl17, HG17⟩ := Kd.R_form HO_3.out (by omega)
          (first | cases eo17 | (injection eo17 with ea_ en_ ec_; (first | subst ea_ | (injection ea_ with ea_; subst ea_)); subst ec_; clear en_))
          have GB17 := Aside0.mk gb17
          have GG17 := Aside0.mk HG17
          clear gb17 gl17 HG17
          obtain ⟨hx17_0, hf17_0⟩ := Kd.R_celln false HO_3.out (x6_1 : Int) p17 q17
          replace p17 := eq_true p17
          replace q17 := eq_true q17
          have HP18 := Kd.R_putg HO_3.out (x6_1 : Int) ((bt a0 x6_1) == 34)
          go_wp2_with (first | ((with_reducible refine gate_store (t := 4) (p := 25) rfl ?_); refine store_event (t := 4) (p := 25) (v := ?vo_w19) (w1 := (wr.setCell ⟨go17, (x6_1 : Int).toNat, none⟩ (.bool ((bt a0 x6_1) == 34)))) ?hg ?ho ?hn ?hr ?_; (case ho => rfl); (case hg => rfl); (case hn => rfl); (case hr => first | (go_simp; done) | (go_simp; rfl)); intro w19 hw; have hg : wr.grownBy w19 (some go17) := (by rw [hw]; exact HP18.2); have hp_ : Kd.R Kd.bool 4 w19 w.heap.size (fun _ => True) (.slice (some ⟨go17, 0, none⟩) x3_1.length co17) y296 := (by rw [hw, Ny296.out]; exact HP18.1); clear HP18; replace HO_3 := Aside0.mk (hp_); replace HB := Aside0.mk ((by rw [hw]; exact below_set (HB.out) GB17.out : Below w.heap.size w w19)); clear hg hw hp_))
          go_meet
          case rel => exact ⟨_, (y296), H', ⟨by have := HK1.out; first | omega | exact Nat.le_refl _⟩, ⟨R1_ HO_3.out⟩, ⟨W1_⟩⟩
         ·
          rw [if_neg c16] at H
          exact absurd H (by simp)
        ·
         rw [if_neg c14] at H
         exact absurd H (by simp)
      case rest =>
       clear HC7
       (try clear c2); (try clear c2b0); (try clear c2b1); (try clear c3); (try clear c3b0); (try clear c3b1); (try clear c6); (try clear c6b0); (try clear c8); (try clear c9); (try clear c9b0); (try clear c10); (try clear c10b0); (try clear p11); (try clear q11); (try clear c14); (try clear c14b0); (try clear p15); (try clear q15); (try clear hx15); (try clear c16); (try clear c16b0); (try clear p17); (try clear q17); (try clear hx11_0); (try clear hx17_0); (try clear p11); (try clear p15); (try clear p17); (try clear q11); (try clear q15); (try clear q17)
       obtain ⟨kq, x3_6, HA, HJ6, HO_3, HB⟩ := hcut
       cases kq with
       | zero => exact absurd HA.out (by simp [pantryref01_quoted.j1])
       | succ kj6 =>
        have H := HA.out
        clear HA
        simp only [pantryref01_quoted.j1] at H
        by_cases c20 : x5_1 = true
        ·
         subst c20
         rw [if_pos rfl] at H
         have H' := Aside0.mk H
         clear H
         go_wp2
         go_roundg kj6
         case measure => have := HK1.out; have := HJ6.out; omega
         case rel => exact ⟨(x3_6), (x4_1), (false), (wrap64 (x6_1 + 1)), E3_, E3_, E3_, H', ⟨by have := HK1.out; have := HJ6.out; omega⟩, ⟨R1_ HO_3.out⟩, ⟨W1_⟩⟩
        ·
         replace c20 := Bool.eq_false_iff.mpr c20
         subst c20
         rw [if_neg (show ¬ (false = true) by decide)] at H
         have HC21 := Aside0.mk H
         clear H
         go_upto_region 10 with (fail)
         go_cut [33] (fun v33 wc => ∃ (kq : Nat) (x33_20 : Bool), v33 = .bool x33_20 ∧ Aside0 (pantryref01_quoted.j2 kq a0 x3_6 x4_1 false x6_1 x33_20 = some r) ∧ Aside0 (kq ≤ kj6) ∧ Aside0 (Kd.R Kd.bool 4 wc w.heap.size (fun _ => True) v293 x3_6) ∧ Aside0 (Below w.heap.size w wc))
         case first =>
          have H := HC21.out
          clear HC21
          by_cases c22 : x4_1 = true
          ·
           subst c22
           rw [if_pos rfl] at H
           by_cases c23 : 0 ≤ x6_1
           ·
            rw [if_pos c23] at H
            have c23b0 : decide (0 ≤ x6_1) = true := decide_eq_true c23
            clear c23
            (first | rw [c23b0] | (simp only [i64_w, i32_w]; rw [c23b0]) | skip)
            by_cases c24 : x6_1 < (a0.size : Int)
            ·
             rw [if_pos c24] at H
             have c24b0 : decide (x6_1 < (a0.size : Int)) = true := decide_eq_true c24
             clear c24
             have H' := Aside0.mk H
             clear H
             have p25 : 0 ≤ (x6_1 : Int) := oA_
             have q25 : x6_1 < (a0.size : Int) := oA_
             have hx25 := bt_at a0 x6_1
             replace p25 := eq_true p25
             replace q25 := eq_true q25
             go_wp2
             go_meet
             case rel => exact ⟨_, (((bt a0 x6_1) == 92)), E3_, H', ⟨by have := HK1.out; have := HJ6.out; first | omega | exact Nat.le_refl _⟩, ⟨R1_ HO_3.out⟩, ⟨W1_⟩⟩
            ·
             rw [if_neg c24] at H
             exact absurd H (by simp)
           ·
            rw [if_neg c23] at H
            exact absurd H (by simp)
          ·
           replace c22 := Bool.eq_false_iff.mpr c22
           subst c22
           rw [if_neg (show ¬ (false = true) by decide)] at H
           have H' := Aside0.mk H
           clear H
           go_wp2
           go_meet
           case rel => exact ⟨_, (false), E3_, H', ⟨by have := HK1.out; have := HJ6.out; first | omega | exact Nat.le_refl _⟩, ⟨R1_ HO_3.out⟩, ⟨W1_⟩⟩
         case rest =>
          clear HC21
          (try clear c2); (try clear c2b0); (try clear c2b1); (try clear c3); (try clear c3b0); (try clear c3b1); (try clear c6); (try clear c6b0); (try clear c8); (try clear c9); (try clear c9b0); (try clear c10); (try clear c10b0); (try clear p11); (try clear q11); (try clear c14); (try clear c14b0); (try clear p15); (try clear q15); (try clear hx15); (try clear c16); (try clear c16b0); (try clear p17); (try clear q17); (try clear c20); (try clear c22); (try clear c23); (try clear c23b0); (try clear c24); (try clear c24b0); (try clear p25); (try clear q25); (try clear hx25); (try clear hx11_0); (try clear hx17_0); (try clear p11); (try clear p15); (try clear p17); (try clear p25); (try clear q11); (try clear q15); (try clear q17); (try clear q25)
          obtain ⟨kq, x33_20, rfl, HA, HJ20, HO_3, HB⟩ := hcut
          cases kq with
          | zero => exact absurd HA.out (by simp [pantryref01_quoted.j2])
          | succ kj20 =>
           have H := HA.out
           clear HA
           simp only [pantryref01_quoted.j2] at H
           by_cases c26 : x33_20 = true
           ·
            subst c26
            rw [if_pos rfl] at H
            have H' := Aside0.mk H
            clear H
            go_wp2
            go_roundg kj20
            case measure => have := HK1.out; have := HJ6.out; have := HJ20.out; omega
            case rel => exact ⟨(x3_6), (x4_1), (true), (wrap64 (x6_1 + 1)), E3_, E3_, E3_, H', ⟨by have := HK1.out; have := HJ6.out; have := HJ20.out; omega⟩, ⟨R1_ HO_3.out⟩, ⟨W1_⟩⟩
           ·
            replace c26 := Bool.eq_false_iff.mpr c26
            subst c26
            rw [if_neg (show ¬ (false = true) by decide)] at H
            by_cases c27 : 0 ≤ x6_1
            ·
             rw [if_pos c27] at H
             have c27b0 : decide (0 ≤ x6_1) = true := decide_eq_true c27
             clear c27
             by_cases c28 : x6_1 < (a0.size : Int)
             ·
              rw [if_pos c28] at H
              have c28b0 : decide (x6_1 < (a0.size : Int)) = true := decide_eq_true c28
              clear c28
              by_cases c30 : (bt a0 x6_1) = 34
              ·
               rw [if_pos c30] at H
               have c30b0 : ((bt a0 x6_1) == 34) = true := beq_iff_eq.mpr c30
               have c30b1 : ((bt a0 x6_1) != 34) = false := bne_eq_false_iff_eq.mpr c30
               clear c30
               have H' := Aside0.mk H
               clear H
               have p29 : 0 ≤ (x6_1 : Int) := oA_
               have q29 : x6_1 < (a0.size : Int) := oA_
               have hx29 := bt_at a0 x6_1
               replace p29 := eq_true p29
               replace q29 := eq_true q29
               go_wp2
               go_roundg kj20
               case measure => have := HK1.out; have := HJ6.out; have := HJ20.out; omega
               case rel => exact ⟨(x3_6), (!x4_1), (false), (wrap64 (x6_1 + 1)), E3_, E3_, E3_, H', ⟨by have := HK1.out; have := HJ6.out; have := HJ20.out; omega⟩, ⟨R1_ HO_3.out⟩, ⟨W1_⟩⟩
              ·
               rw [if_neg c30] at H
               have c30b0 : ((bt a0 x6_1) == 34) = false := beq_eq_false_iff_ne.mpr c30
               have c30b1 : ((bt a0 x6_1) != 34) = true := bne_iff_ne.mpr c30
               have H' := Aside0.mk H
               clear H
               have p29 : 0 ≤ (x6_1 : Int) := oA_
               have q29 : x6_1 < (a0.size : Int) := oA_
               have hx29 := bt_at a0 x6_1
               replace p29 := eq_true p29
               replace q29 := eq_true q29
               go_wp2
               go_roundg kj20
               case measure => have := HK1.out; have := HJ6.out; have := HJ20.out; omega
               case rel => exact ⟨(x3_6), (x4_1), (false), (wrap64 (x6_1 + 1)), E3_, E3_, E3_, H', ⟨by have := HK1.out; have := HJ6.out; have := HJ20.out; omega⟩, ⟨R1_ HO_3.out⟩, ⟨W1_⟩⟩
             ·
              rw [if_neg c28] at H
              exact absurd H (by simp)
            ·
             rw [if_neg c27] at H
             exact absurd H (by simp)
     ·
      rw [if_neg c6] at H
      have c6b0 : decide (x6_1 < (a0.size : Int)) = false := decide_eq_false c6
      clear c6
      obtain rfl := Option.some.inj H
      go_wp2
      go_ret
      exact ⟨_, E1_, by refine R1_ ?_; exact HO_3.out, W1_⟩
  ·
   rw [if_neg c3] at H
   exact absurd H (by simp)
 ·
  rw [if_neg c2] at H
  exact absurd H (by simp)

/-! ### pantryref01_blank: function 127 -/
def pantryref01_blank.f (a0 : Int) : Option (Bool) := if a0 = 32 then (some true) else (some (a0 == 9))
set_option maxHeartbeats 8000000 in
set_option maxRecDepth 100000 in
theorem pantryref01_blank.calls (a0 : Int) (r : Bool) (w : World) (h : pantryref01_blank.f a0 = some r) :
  Calls Tryz.prog 127 #[.int .u8 a0] w fun e w' => e = .returned (.bool r) ∧ Drawn0 w w' := by
 have H : (if a0 = 32 then (some true) else (some (a0 == 9))) = some r := h
 clear h
 by_cases c2 : a0 = 32
 ·
  rw [if_pos c2] at H
  have c2b0 : (a0 == 32) = true := beq_iff_eq.mpr c2
  have c2b1 : (a0 != 32) = false := bne_eq_false_iff_eq.mpr c2
  clear c2
  obtain rfl := Option.some.inj H
  go_enter Tryz.func127, Tryz.ntmps127
  go_wp2
  go_ret
  exact ⟨E2_, D1_⟩
 ·
  rw [if_neg c2] at H
  have c2b0 : (a0 == 32) = false := beq_eq_false_iff_ne.mpr c2
  have c2b1 : (a0 != 32) = true := bne_iff_ne.mpr c2
  obtain rfl := Option.some.inj H
  go_enter Tryz.func127, Tryz.ntmps127
  go_wp2
  go_ret
  exact ⟨E2_, D1_⟩

end Go.Proofs.YtgpekljckdgggaaGreatDoor.PAll
