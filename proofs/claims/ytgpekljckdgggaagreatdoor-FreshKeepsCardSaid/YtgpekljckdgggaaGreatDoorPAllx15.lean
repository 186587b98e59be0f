import Derived.Test.YtgpekljckdgggaaGreatDoorPAllx0
import Derived.Test.YtgpekljckdgggaaGreatDoorPAllx12
import Derived.Test.YtgpekljckdgggaaGreatDoorPAllx14
namespace Go.Proofs.YtgpekljckdgggaaGreatDoor.PAll
open Go.RowKit Go.Proofs.YtgpekljckdgggaaGreatDoorW.PrintWords Go.Proofs.YtgpekljckdgggaaGreatDoorW.PrintLast Go.Proofs.YtgpekljckdgggaaGreatDoorW.PrintMore
attribute [local go_sem] max2_int min2_int max_two min_two max_three min_three max_four min_four   -- for this text's walks alone
set_option linter.unusedVariables false
set_option linter.unusedSimpArgs false

/-! ### pantryref04_said: function 56 -/
def pantryref04_said.l0 : Nat → List ByteArray → ByteArray → Int → Option (Bool)
 | 0, _, _, _ => none
 | k + 1, x0, x1, x5 => if x5 < (x0.length : Int) then (if 0 ≤ x5 then ((pantryref04_cut.f k (rdOf ByteArray.empty x0 x5)).bind fun bt313 => ((pantryref01_Lower.f k bt313.1).bind fun t316 => (if t316.toList = x1.toList then (some true) else (pantryref04_said.l0 k x0 x1 (wrap64 (x5 + 1)))))) else (none)) else (some false)
def pantryref04_said.f (k : Nat) (l0 : List ByteArray) (a1 : ByteArray) : Option (Bool) := pantryref04_said.l0 k l0 a1 0
theorem pantryref04_said.mono_l : ∀ k, (∀ y0 y1 y2, LeO (pantryref04_said.l0 k y0 y1 y2) (pantryref04_said.l0 (k + 1) y0 y1 y2))
 | 0 => fun _ _ _ r h => by simp [pantryref04_said.l0] at h
 | k + 1 => by
  have ih0 := pantryref04_said.mono_l k
  ·
   intro y0 y1 y2
   unfold pantryref04_said.l0
   repeat' (with_reducible first | exact ih0 _ _ _ | exact pantryref01_Lower.mono _ _ | exact pantryref04_cut.mono _ _ | exact lR_ | refine LeO.ite ?_ ?_ | refine LeO.bind ?_ (fun _ => ?_))
theorem pantryref04_said.mono : ∀ a0 a1 k, LeO (pantryref04_said.f k a0 a1) (pantryref04_said.f (k + 1) a0 a1) := by
 intro a0 a1 k
 have ih0 := pantryref04_said.mono_l k
 unfold pantryref04_said.f
 repeat' (with_reducible first | exact ih0 _ _ _ | exact pantryref01_Lower.mono _ _ | exact pantryref04_cut.mono _ _ | exact lR_ | refine LeO.ite ?_ ?_ | refine LeO.bind ?_ (fun _ => ?_))
set_option maxHeartbeats 8000000 in
set_option maxRecDepth 100000 in
theorem pantryref04_said.calls (k : Nat) (A0 : Option Addr) (c0 : Nat) (l0 : List ByteArray) (a1 : ByteArray) (r : Bool) (w : World) (hr0 : Kd.C Kd.string w A0 l0.length l0) (hc0 : l0.length ≤ c0) (h : pantryref04_said.f k l0 a1 = some r) :
  Calls Tryz.prog 56 #[.slice A0 l0.length c0, .string a1] w fun e w' => e = .returned (.bool r) ∧ Below w.heap.size w w' := by
 have HR0 := Aside0.mk hr0
 have HC0 := Aside0.mk hc0
 clear hr0 hc0
 have HB := Aside0.mk (Below.refl w.heap.size w)
 have H : (pantryref04_said.l0 k l0 a1 0) = some r := h
 clear h
 have H' := Aside0.mk H
 clear H
 go_enter Tryz.func56, Tryz.ntmps56
 go_wp2
 go_loopg [5] k (fun kq v5 w' => ∃ (x5_1 : Int), v5 = .int .i64 x5_1 ∧ Aside0 (pantryref04_said.l0 kq l0 a1 x5_1 = some r) ∧ Aside0 (kq ≤ k) ∧ Aside0 (Below w.heap.size w w'))
 case atStart => exact ⟨(0), E3_, H', ⟨Nat.le_refl _⟩, ⟨W1_⟩⟩
 case round =>
  clear H'
  obtain ⟨x5_1, rfl, HA, HK1, HB⟩ := hrel
  cases gk with
  | zero => exact absurd HA.out (by simp [pantryref04_said.l0])
  | succ k1 =>
   have H := HA.out
   clear HA
   simp only [pantryref04_said.l0] at H
   by_cases c3 : x5_1 < (l0.length : Int)
   ·
    rw [if_pos c3] at H
    have c3b0 : decide (x5_1 < (l0.length : Int)) = true := decide_eq_true c3
    clear c3
    by_cases c4 : 0 ≤ x5_1
    ·
     rw [if_pos c4] at H
     have c4b0 : decide (0 ≤ x5_1) = true := decide_eq_true c4
     clear c4
     obtain ⟨⟨t313, t314, t315⟩, A5, H⟩ := bS_ H
     try dsimp only at H
     obtain ⟨t316, A6, H⟩ := bS_ H
     try dsimp only at H
     by_cases c7 : t316.toList = a1.toList
     ·
      rw [if_pos c7] at H
      have c7b0 : (t316.toList == a1.toList) = true := beq_iff_eq.mpr c7
      have c7b1 : (t316.toList != a1.toList) = false := bne_eq_false_iff_eq.mpr c7
      clear c7
      obtain rfl := Option.some.inj H
      have p312 : 0 ≤ (x5_1 : Int) := oA_
      have q312 : x5_1 < (l0.length : Int) := oA_
      obtain ⟨ad312, e312, hx312_0⟩ := Kd.at_string HR0.out x5_1 p312 q312
      cases e312
      replace hx312_0 := (HB.out.cell (World.block_lt_of_cell? w _ hx312_0)).trans hx312_0
      replace p312 := eq_true p312
      replace q312 := eq_true q312
      go_wp2_with (first | ((with_reducible refine gate_callee (f := 80) rfl ?_); refine goesL_ (some 20) rfl rfl Tryz.func80 (by kernel_rfl) rfl #[.string (rdOf ByteArray.empty l0 x5_1)] rfl T1_ ?_; (with_reducible refine (pantryref04_cut.calls k1 (rdOf ByteArray.empty l0 x5_1) t313 t314 t315 _ A5.out).mono ?_); rintro e w' ⟨rfl, ⟨nd, rfl⟩⟩; refine ⟨_, rfl, ?_⟩) | ((with_reducible refine gate_callee (f := 61) rfl ?_); refine goesL_ (some 25) rfl rfl Tryz.func61 (by kernel_rfl) rfl #[.string t313] rfl T1_ ?_; (with_reducible refine (pantryref01_Lower.calls k1 t313 t316 _ A6.out).mono ?_); rintro e w8 ⟨rfl, hb⟩; refine ⟨_, rfl, ?_⟩; replace HB := y1_ hb; (try clear hb)))
      go_ret
      exact ⟨E1_, W1_⟩
     ·
      rw [if_neg c7] at H
      have c7b0 : (t316.toList == a1.toList) = false := beq_eq_false_iff_ne.mpr c7
      have c7b1 : (t316.toList != a1.toList) = true := bne_iff_ne.mpr c7
      have H' := Aside0.mk H
      clear H
      have p312 : 0 ≤ (x5_1 : Int) := oA_
      have q312 : x5_1 < (l0.length : Int) := oA_
      obtain ⟨ad312, e312, hx312_0⟩ := Kd.at_string HR0.out x5_1 p312 q312
      cases e312
      replace hx312_0 := (HB.out.cell (World.block_lt_of_cell? w _ hx312_0)).trans hx312_0
      replace p312 := eq_true p312
      replace q312 := eq_true q312
      go_wp2_with (first | ((with_reducible refine gate_callee (f := 80) rfl ?_); refine goesL_ (some 20) rfl rfl Tryz.func80 (by kernel_rfl) rfl #[.string (rdOf ByteArray.empty l0 x5_1)] rfl T1_ ?_; (with_reducible refine (pantryref04_cut.calls k1 (rdOf ByteArray.empty l0 x5_1) t313 t314 t315 _ A5.out).mono ?_); rintro e w' ⟨rfl, ⟨nd, rfl⟩⟩; refine ⟨_, rfl, ?_⟩) | ((with_reducible refine gate_callee (f := 61) rfl ?_); refine goesL_ (some 25) rfl rfl Tryz.func61 (by kernel_rfl) rfl #[.string t313] rfl T1_ ?_; (with_reducible refine (pantryref01_Lower.calls k1 t313 t316 _ A6.out).mono ?_); rintro e w9 ⟨rfl, hb⟩; refine ⟨_, rfl, ?_⟩; replace HB := y1_ hb; (try clear hb)))
      go_roundg k1
      case measure => have := HK1.out; omega
      case rel => exact ⟨(wrap64 (x5_1 + 1)), E3_, H', ⟨by have := HK1.out; omega⟩, ⟨W1_⟩⟩
    ·
     rw [if_neg c4] at H
     exact absurd H (by simp)
   ·
    rw [if_neg c3] at H
    have c3b0 : decide (x5_1 < (l0.length : Int)) = false := decide_eq_false c3
    clear c3
    obtain rfl := Option.some.inj H
    go_wp2
    go_ret
    exact ⟨E1_, W1_⟩

/-! ### pantryref01_Number: function 40 -/
mutual
def pantryref01_Number.l0 : Nat → ByteArray → Int → Int → Option (Int × Bool)
 | 0, _, _, _ => none
 | k + 1, x0, x4, x5 => if x5 < (x0.size : Int) then (if 0 ≤ x5 then (if (bt x0 x5) < 48 then (pantryref01_Number.j1 k x0 x4 x5 true) else (pantryref01_Number.j1 k x0 x4 x5 (decide ((bt x0 x5) > 57)))) else (none)) else (if x4 > 2147483648 then (some (2147483648, decide ((x0.size : Int) > 0))) else (some (x4, decide ((x0.size : Int) > 0))))
def pantryref01_Number.j1 : Nat → ByteArray → Int → Int → Bool → Option (Int × Bool)
 | 0, _, _, _, _ => none
 | k + 1, x0, x4, x5, x21 => if x21 = true then (some (0, false)) else (if x4 < 2147483648 then (if 0 ≤ x5 then (if x5 < (x0.size : Int) then (pantryref01_Number.l0 k x0 (wrap64 ((wrap64 (10 * x4)) + (((bt x0 x5) - 48) % 256))) (wrap64 (x5 + 1))) else (none)) else (none)) else (pantryref01_Number.l0 k x0 x4 (wrap64 (x5 + 1))))
end
def pantryref01_Number.f (k : Nat) (a0 : ByteArray) : Option (Int × Bool) := pantryref01_Number.l0 k a0 0 0
theorem pantryref01_Number.mono_l : ∀ k, (∀ y0 y1 y2, LeO (pantryref01_Number.l0 k y0 y1 y2) (pantryref01_Number.l0 (k + 1) y0 y1 y2)) ∧ (∀ y0 y1 y2 y3, LeO (pantryref01_Number.j1 k y0 y1 y2 y3) (pantryref01_Number.j1 (k + 1) y0 y1 y2 y3))
 | 0 => ⟨fun _ _ _ r h => by simp [pantryref01_Number.l0] at h, fun _ _ _ _ r h => by simp [pantryref01_Number.j1] at h⟩
 | k + 1 => by
  obtain ⟨ih0, ih1⟩ := pantryref01_Number.mono_l k
  refine ⟨?_, ?_⟩
  ·
   intro y0 y1 y2
   unfold pantryref01_Number.l0
   repeat' (with_reducible first | exact ih0 _ _ _ | exact ih1 _ _ _ _ | exact lR_ | refine LeO.ite ?_ ?_ | refine LeO.bind ?_ (fun _ => ?_))
  ·
   intro y0 y1 y2 y3
   unfold pantryref01_Number.j1
   repeat' (with_reducible first | exact ih0 _ _ _ | exact ih1 _ _ _ _ | exact lR_ | refine LeO.ite ?_ ?_ | refine LeO.bind ?_ (fun _ => ?_))
theorem pantryref01_Number.mono : ∀ a0 k, LeO (pantryref01_Number.f k a0) (pantryref01_Number.f (k + 1) a0) := by
 intro a0 k
 obtain ⟨ih0, ih1⟩ := pantryref01_Number.mono_l k
 unfold pantryref01_Number.f
 repeat' (with_reducible first | exact ih0 _ _ _ | exact ih1 _ _ _ _ | exact lR_ | refine LeO.ite ?_ ?_ | refine LeO.bind ?_ (fun _ => ?_))
set_option maxHeartbeats 8000000 in
set_option maxRecDepth 100000 in
theorem pantryref01_Number.calls (k : Nat) (a0 : ByteArray) (r1 : Int) (r2 : Bool) (w : World) (h : pantryref01_Number.f k a0 = some (r1, r2)) :
  Calls Tryz.prog 40 #[.string a0] w fun e w' => e = .returned (.tuple #[.int .i64 r1, .bool r2]) ∧ Drawn0 w w' := by
 have H : (pantryref01_Number.l0 k a0 0 0) = some (r1, r2) := h
 clear h
 have H' := Aside0.mk H
 clear H
 go_enter Tryz.func40, Tryz.ntmps40
 go_wp2
 go_loopg [4, 5] k (fun kq v4 v5 w' => ∃ (x4_1 : Int) (x5_1 : Int), v4 = .int .i64 x4_1 ∧ v5 = .int .i64 x5_1 ∧ Aside0 (pantryref01_Number.l0 kq a0 x4_1 x5_1 = some (r1, r2)) ∧ Aside0 (kq ≤ k) ∧ Drawn0 w w')
 case atStart => exact ⟨(0), (0), E3_, E3_, H', ⟨Nat.le_refl _⟩, D1_⟩
 case round =>
  clear H'
  obtain ⟨x4_1, x5_1, rfl, rfl, HA, HK1, ⟨m1, rfl⟩⟩ := hrel
  cases gk with
  | zero => exact absurd HA.out (by simp [pantryref01_Number.l0])
  | succ k1 =>
   have H := HA.out
   clear HA
   simp only [pantryref01_Number.l0] at H
   by_cases c2 : x5_1 < (a0.size : Int)
   ·
    rw [if_pos c2] at H
    have c2b0 : decide (x5_1 < (a0.size : Int)) = true := decide_eq_true c2
    clear c2
    have HC3 := Aside0.mk H
    clear H
    go_upto_region 5 with (fail)
    go_cut [21] (fun v21 wc => ∃ (kq : Nat) (x21_2 : Bool), v21 = .bool x21_2 ∧ Aside0 (pantryref01_Number.j1 kq a0 x4_1 x5_1 x21_2 = some (r1, r2)) ∧ Aside0 (kq ≤ k1) ∧ Drawn0 w wc)
    case first =>
     have H := HC3.out
     clear HC3
     by_cases c4 : 0 ≤ x5_1
     ·
      rw [if_pos c4] at H
      have c4b0 : decide (0 ≤ x5_1) = true := decide_eq_true c4
      clear c4
      (first | rw [c4b0] | (simp only [i64_w, i32_w]; rw [c4b0]) | skip)
      by_cases c6 : (bt a0 x5_1) < 48
      ·
       rw [if_pos c6] at H
       have c6b0 : decide ((bt a0 x5_1) < 48) = true := decide_eq_true c6
       clear c6
       have H' := Aside0.mk H
       clear H
       have p5 : 0 ≤ (x5_1 : Int) := oA_
       have q5 : x5_1 < (a0.size : Int) := oA_
       have hx5 := bt_at a0 x5_1
       replace p5 := eq_true p5
       replace q5 := eq_true q5
       go_wp2
       go_meet
       case rel => exact ⟨_, (true), E3_, H', ⟨by have := HK1.out; first | omega | exact Nat.le_refl _⟩, D1_⟩
      ·
       rw [if_neg c6] at H
       have c6b0 : decide ((bt a0 x5_1) < 48) = false := decide_eq_false c6
       clear c6
       have H' := Aside0.mk H
       clear H
       have p5 : 0 ≤ (x5_1 : Int) := oA_
       have q5 : x5_1 < (a0.size : Int) := oA_
       have hx5 := bt_at a0 x5_1
       replace p5 := eq_true p5
       replace q5 := eq_true q5
       have p7 : 0 ≤ (x5_1 : Int) := oA_
       have q7 : x5_1 < (a0.size : Int) := oA_
       have hx7 := bt_at a0 x5_1
       replace p7 := eq_true p7
       replace q7 := eq_true q7
       go_wp2
       go_meet
       case rel => exact ⟨_, (decide ((bt a0 x5_1) > 57)), E3_, H', ⟨by have := HK1.out; first | omega | exact Nat.le_refl _⟩, D1_⟩
     ·
      rw [if_neg c4] at H
      exact absurd H (by simp)
    case rest =>
     clear HC3
     (try clear c2); (try clear c2b0); (try clear c4); (try clear c4b0); (try clear p5); (try clear q5); (try clear hx5); (try clear c6); (try clear c6b0); (try clear p7); (try clear q7); (try clear hx7); (try clear p5); (try clear p7); (try clear q5); (try clear q7)
     obtain ⟨kq, x21_2, rfl, HA, HJ2, ⟨mc2, rfl⟩⟩ := hcut
     cases kq with
     | zero => exact absurd HA.out (by simp [pantryref01_Number.j1])
     | succ kj2 =>
      have H := HA.out
      clear HA
      simp only [pantryref01_Number.j1] at H
      by_cases c8 : x21_2 = true
      ·
       subst c8
       rw [if_pos rfl] at H
       simp only [Option.some.injEq, Prod.mk.injEq] at H
       obtain ⟨rfl, rfl⟩ := H
       go_wp2
       go_ret2
       exact ⟨E2_, D1_⟩
      ·
       replace c8 := Bool.eq_false_iff.mpr c8
       subst c8
       rw [if_neg (show ¬ (false = true) by decide)] at H
       by_cases c9 : x4_1 < 2147483648
       ·
        rw [if_pos c9] at H
        have c9b0 : decide (x4_1 < 2147483648) = true := decide_eq_true c9
        clear c9
        by_cases c10 : 0 ≤ x5_1
        ·
         rw [if_pos c10] at H
         have c10b0 : decide (0 ≤ x5_1) = true := decide_eq_true c10
         clear c10
         by_cases c11 : x5_1 < (a0.size : Int)
         ·
          rw [if_pos c11] at H
          have c11b0 : decide (x5_1 < (a0.size : Int)) = true := decide_eq_true c11
          clear c11
          have H' := Aside0.mk H
          clear H
          have p12 : 0 ≤ (x5_1 : Int) := oA_
          have q12 : x5_1 < (a0.size : Int) := oA_
          have hx12 := bt_at a0 x5_1
          replace p12 := eq_true p12
          replace q12 := eq_true q12
          go_wp2
          go_roundg kj2
          case measure => have := HK1.out; have := HJ2.out; omega
          case rel => exact ⟨(wrap64 ((wrap64 (10 * x4_1)) + (((bt a0 x5_1) - 48) % 256))), (wrap64 (x5_1 + 1)), E3_, E3_, H', ⟨by have := HK1.out; have := HJ2.out; omega⟩, D1_⟩
         ·
          rw [if_neg c11] at H
          exact absurd H (by simp)
        ·
         rw [if_neg c10] at H
         exact absurd H (by simp)
       ·
        rw [if_neg c9] at H
        have c9b0 : decide (x4_1 < 2147483648) = false := decide_eq_false c9
        clear c9
        have H' := Aside0.mk H
        clear H
        go_wp2
        go_roundg kj2
        case measure => have := HK1.out; have := HJ2.out; omega
        case rel => exact ⟨(x4_1), (wrap64 (x5_1 + 1)), E3_, E3_, H', ⟨by have := HK1.out; have := HJ2.out; omega⟩, D1_⟩
   ·
    rw [if_neg c2] at H
    have c2b0 : decide (x5_1 < (a0.size : Int)) = false := decide_eq_false c2
    clear c2
    by_cases c13 : x4_1 > 2147483648
    ·
     rw [if_pos c13] at H
     have c13b0 : decide (2147483648 < x4_1) = true := decide_eq_true c13
     clear c13
     simp only [Option.some.injEq, Prod.mk.injEq] at H
     obtain ⟨rfl, rfl⟩ := H
     go_wp2
     go_ret2
     exact ⟨E2_, D1_⟩
    ·
     rw [if_neg c13] at H
     have c13b0 : decide (2147483648 < x4_1) = false := decide_eq_false c13
     clear c13
     simp only [Option.some.injEq, Prod.mk.injEq] at H
     obtain ⟨rfl, rfl⟩ := H
     go_wp2
     go_ret2
     exact ⟨E2_, D1_⟩

/-! ### pantryref01_Letter: function 148 -/
def pantryref01_Letter.f (a0 : Int) : Option (Bool) := if a0 ≥ 97 then (if a0 ≤ 122 then (some true) else (if a0 ≥ 65 then (if a0 ≤ 90 then (some true) else (if a0 ≥ 48 then (some (decide (a0 ≤ 57))) else (some false))) else (if a0 ≥ 48 then (some (decide (a0 ≤ 57))) else (some false)))) else (if a0 ≥ 65 then (if a0 ≤ 90 then (some true) else (if a0 ≥ 48 then (some (decide (a0 ≤ 57))) else (some false))) else (if a0 ≥ 48 then (some (decide (a0 ≤ 57))) else (some false)))
set_option maxHeartbeats 8000000 in
set_option maxRecDepth 100000 in
theorem pantryref01_Letter.calls (a0 : Int) (r : Bool) (w : World) (h : pantryref01_Letter.f a0 = some r) :
  Calls Tryz.prog 148 #[.int .u8 a0] w fun e w' => e = .returned (.bool r) ∧ Drawn0 w w' := by
 have H : (if a0 ≥ 97 then (if a0 ≤ 122 then (some true) else (if a0 ≥ 65 then (if a0 ≤ 90 then (some true) else (if a0 ≥ 48 then (some (decide (a0 ≤ 57))) else (some false))) else (if a0 ≥ 48 then (some (decide (a0 ≤ 57))) else (some false)))) else (if a0 ≥ 65 then (if a0 ≤ 90 then (some true) else (if a0 ≥ 48 then (some (decide (a0 ≤ 57))) else (some false))) else (if a0 ≥ 48 then (some (decide (a0 ≤ 57))) else (some false)))) = some r := h
 clear h
 by_cases c2 : a0 ≥ 97
 ·
  rw [if_pos c2] at H
  have c2b0 : decide (97 ≤ a0) = true := decide_eq_true c2
  clear c2
  by_cases c3 : a0 ≤ 122
  ·
   rw [if_pos c3] at H
   have c3b0 : decide (a0 ≤ 122) = true := decide_eq_true c3
   clear c3
   obtain rfl := Option.some.inj H
   go_enter Tryz.func148, Tryz.ntmps148
   go_wp2
   go_ret
   exact ⟨E2_, D1_⟩
  ·
   rw [if_neg c3] at H
   have c3b0 : decide (a0 ≤ 122) = false := decide_eq_false c3
   clear c3
   by_cases c4 : a0 ≥ 65
   ·
    rw [if_pos c4] at H
    have c4b0 : decide (65 ≤ a0) = true := decide_eq_true c4
    clear c4
    by_cases c5 : a0 ≤ 90
    ·
     rw [if_pos c5] at H
     have c5b0 : decide (a0 ≤ 90) = true := decide_eq_true c5
     clear c5
     obtain rfl := Option.some.inj H
     go_enter Tryz.func148, Tryz.ntmps148
     go_wp2
     go_ret
     exact ⟨E2_, D1_⟩
    ·
     rw [if_neg c5] at H
     have c5b0 : decide (a0 ≤ 90) = false := decide_eq_false c5
     clear c5
     by_cases c6 : a0 ≥ 48
     ·
      rw [if_pos c6] at H
      have c6b0 : decide (48 ≤ a0) = true := decide_eq_true c6
      clear c6
      obtain rfl := Option.some.inj H
      go_enter Tryz.func148, Tryz.ntmps148
      go_wp2
      go_ret
      exact ⟨E2_, D1_⟩
     ·
      rw [if_neg c6] at H
      have c6b0 : decide (48 ≤ a0) = false := decide_eq_false c6
      clear c6
      obtain rfl := Option.some.inj H
      go_enter Tryz.func148, Tryz.ntmps148
      go_wp2
      go_ret
      exact ⟨E2_, D1_⟩
   ·
    rw [if_neg c4] at H
    have c4b0 : decide (65 ≤ a0) = false := decide_eq_false c4
    clear c4
    by_cases c7 : a0 ≥ 48
    ·
     rw [if_pos c7] at H
     have c7b0 : decide (48 ≤ a0) = true := decide_eq_true c7
     clear c7
     obtain rfl := Option.some.inj H
     go_enter Tryz.func148, Tryz.ntmps148
     go_wp2
     go_ret
     exact ⟨E2_, D1_⟩
    ·
     rw [if_neg c7] at H
     have c7b0 : decide (48 ≤ a0) = false := decide_eq_false c7
     clear c7
     obtain rfl := Option.some.inj H
     go_enter Tryz.func148, Tryz.ntmps148
     go_wp2
     go_ret
     exact ⟨E2_, D1_⟩
 ·
  rw [if_neg c2] at H
  have c2b0 : decide (97 ≤ a0) = false := decide_eq_false c2
  clear c2
  by_cases c8 : a0 ≥ 65
  ·
   rw [if_pos c8] at H
   have c8b0 : decide (65 ≤ a0) = true := decide_eq_true c8
   clear c8
   by_cases c9 : a0 ≤ 90
   ·
    rw [if_pos c9] at H
    have c9b0 : decide (a0 ≤ 90) = true := decide_eq_true c9
    clear c9
    obtain rfl := Option.some.inj H
    go_enter Tryz.func148, Tryz.ntmps148
    go_wp2
    go_ret
    exact ⟨E2_, D1_⟩
   ·
    rw [if_neg c9] at H
    have c9b0 : decide (a0 ≤ 90) = false := decide_eq_false c9
    clear c9
    by_cases c10 : a0 ≥ 48
    ·
     rw [if_pos c10] at H
     have c10b0 : decide (48 ≤ a0) = true := decide_eq_true c10
     clear c10
     obtain rfl := Option.some.inj H
     go_enter Tryz.func148, Tryz.ntmps148
     go_wp2
     go_ret
     exact ⟨E2_, D1_⟩
    ·
     rw [if_neg c10] at H
     have c10b0 : decide (48 ≤ a0) = false := decide_eq_false c10
     clear c10
     obtain rfl := Option.some.inj H
     go_enter Tryz.func148, Tryz.ntmps148
     go_wp2
     go_ret
     exact ⟨E2_, D1_⟩
  ·
   rw [if_neg c8] at H
   have c8b0 : decide (65 ≤ a0) = false := decide_eq_false c8
   clear c8
   by_cases c11 : a0 ≥ 48
   ·
    rw [if_pos c11] at H
    have c11b0 : decide (48 ≤ a0) = true := decide_eq_true c11
    clear c11
    obtain rfl := Option.some.inj H
    go_enter Tryz.func148, Tryz.ntmps148
    go_wp2
    go_ret
    exact ⟨E2_, D1_⟩
   ·
    rw [if_neg c11] at H
    have c11b0 : decide (48 ≤ a0) = false := decide_eq_false c11
    clear c11
    obtain rfl := Option.some.inj H
    go_enter Tryz.func148, Tryz.ntmps148
    go_wp2
    go_ret
    exact ⟨E2_, D1_⟩

/-! ### pantryref01_Sign: function 143 -/
def pantryref01_Sign.f (a0 : Int) : Option (Bool) := if a0 = 33 then (some true) else (if a0 = 35 then (some true) else (if a0 = 36 then (some true) else (if a0 = 37 then (some true) else (if a0 = 38 then (some true) else (if a0 = 39 then (some true) else (if a0 = 42 then (some true) else (if a0 = 43 then (some true) else (if a0 = 45 then (some true) else (if a0 = 46 then (some true) else (if a0 = 94 then (some true) else (if a0 = 95 then (some true) else (if a0 = 124 then (some true) else (if a0 = 126 then (some true) else (if a0 = 96 then (some true) else ((pantryref01_Letter.f a0).bind fun t317 => (some t317))))))))))))))))
set_option maxHeartbeats 8000000 in
set_option maxRecDepth 100000 in
theorem pantryref01_Sign.calls (a0 : Int) (r : Bool) (w : World) (h : pantryref01_Sign.f a0 = some r) :
  Calls Tryz.prog 143 #[.int .u8 a0] w fun e w' => e = .returned (.bool r) ∧ Drawn0 w w' := by
 have H : (if a0 = 33 then (some true) else (if a0 = 35 then (some true) else (if a0 = 36 then (some true) else (if a0 = 37 then (some true) else (if a0 = 38 then (some true) else (if a0 = 39 then (some true) else (if a0 = 42 then (some true) else (if a0 = 43 then (some true) else (if a0 = 45 then (some true) else (if a0 = 46 then (some true) else (if a0 = 94 then (some true) else (if a0 = 95 then (some true) else (if a0 = 124 then (some true) else (if a0 = 126 then (some true) else (if a0 = 96 then (some true) else ((pantryref01_Letter.f a0).bind fun t317 => (some t317))))))))))))))))) = some r := h
 clear h
 by_cases c2 : a0 = 33
 ·
  rw [if_pos c2] at H
  have c2b0 : (a0 == 33) = true := beq_iff_eq.mpr c2
  have c2b1 : (a0 != 33) = false := bne_eq_false_iff_eq.mpr c2
  clear c2
  obtain rfl := Option.some.inj H
  go_enter Tryz.func143, Tryz.ntmps143
  go_wp2
  go_ret
  exact ⟨E2_, D1_⟩
 ·
  rw [if_neg c2] at H
  have c2b0 : (a0 == 33) = false := beq_eq_false_iff_ne.mpr c2
  have c2b1 : (a0 != 33) = true := bne_iff_ne.mpr c2
  by_cases c3 : a0 = 35
  ·
   rw [if_pos c3] at H
   have c3b0 : (a0 == 35) = true := beq_iff_eq.mpr c3
   have c3b1 : (a0 != 35) = false := bne_eq_false_iff_eq.mpr c3
   clear c3
   obtain rfl := Option.some.inj H
   go_enter Tryz.func143, Tryz.ntmps143
   go_wp2
   go_ret
   exact ⟨E2_, D1_⟩
  ·
   rw [if_neg c3] at H
   have c3b0 : (a0 == 35) = false := beq_eq_false_iff_ne.mpr c3
   have c3b1 : (a0 != 35) = true := bne_iff_ne.mpr c3
   by_cases c4 : a0 = 36
   ·
    rw [if_pos c4] at H
    have c4b0 : (a0 == 36) = true := beq_iff_eq.mpr c4
    have c4b1 : (a0 != 36) = false := bne_eq_false_iff_eq.mpr c4
    clear c4
    obtain rfl := Option.some.inj H
    go_enter Tryz.func143, Tryz.ntmps143
    go_wp2
    go_ret
    exact ⟨E2_, D1_⟩
   ·
    rw [if_neg c4] at H
    have c4b0 : (a0 == 36) = false := beq_eq_false_iff_ne.mpr c4
    have c4b1 : (a0 != 36) = true := bne_iff_ne.mpr c4
    by_cases c5 : a0 = 37
    ·
     rw [if_pos c5] at H
     have c5b0 : (a0 == 37) = true := beq_iff_eq.mpr c5
     have c5b1 : (a0 != 37) = false := bne_eq_false_iff_eq.mpr c5
     clear c5
     obtain rfl := Option.some.inj H
     go_enter Tryz.func143, Tryz.ntmps143
     go_wp2
     go_ret
     exact ⟨E2_, D1_⟩
    ·
     rw [if_neg c5] at H
     have c5b0 : (a0 == 37) = false := beq_eq_false_iff_ne.mpr c5
     have c5b1 : (a0 != 37) = true := bne_iff_ne.mpr c5
     by_cases c6 : a0 = 38
     ·
      rw [if_pos c6] at H
      have c6b0 : (a0 == 38) = true := beq_iff_eq.mpr c6
      have c6b1 : (a0 != 38) = false := bne_eq_false_iff_eq.mpr c6
      clear c6
      obtain rfl := Option.some.inj H
      go_enter Tryz.func143, Tryz.ntmps143
      go_wp2
      go_ret
      exact ⟨E2_, D1_⟩
     ·
      rw [if_neg c6] at H
      have c6b0 : (a0 == 38) = false := beq_eq_false_iff_ne.mpr c6
      have c6b1 : (a0 != 38) = true := bne_iff_ne.mpr c6
      by_cases c7 : a0 = 39
      ·
       rw [if_pos c7] at H
       have c7b0 : (a0 == 39) = true := beq_iff_eq.mpr c7
       have c7b1 : (a0 != 39) = false := bne_eq_false_iff_eq.mpr c7
       clear c7
       obtain rfl := Option.some.inj H
       go_enter Tryz.func143, Tryz.ntmps143
       go_wp2
       go_ret
       exact ⟨E2_, D1_⟩
      ·
       rw [if_neg c7] at H
       have c7b0 : (a0 == 39) = false := beq_eq_false_iff_ne.mpr c7
       have c7b1 : (a0 != 39) = true := bne_iff_ne.mpr c7
       by_cases c8 : a0 = 42
       ·
        rw [if_pos c8] at H
        have c8b0 : (a0 == 42) = true := beq_iff_eq.mpr c8
        have c8b1 : (a0 != 42) = false := bne_eq_false_iff_eq.mpr c8
        clear c8
        obtain rfl := Option.some.inj H
        go_enter Tryz.func143, Tryz.ntmps143
        go_wp2
        go_ret
        exact ⟨E2_, D1_⟩
       ·
        rw [if_neg c8] at H
        have c8b0 : (a0 == 42) = false := beq_eq_false_iff_ne.mpr c8
        have c8b1 : (a0 != 42) = true := bne_iff_ne.mpr c8
        by_cases c9 : a0 = 43
        ·
         rw [if_pos c9] at H
         have c9b0 : (a0 == 43) = true := beq_iff_eq.mpr c9
         have c9b1 : (a0 != 43) = false := bne_eq_false_iff_eq.mpr c9
         clear c9
         obtain rfl := Option.some.inj H
         go_enter Tryz.func143, Tryz.ntmps143
         go_wp2
         go_ret
         exact ⟨E2_, D1_⟩
        ·
         rw [if_neg c9] at H
         have c9b0 : (a0 == 43) = false := beq_eq_false_iff_ne.mpr c9
         have c9b1 : (a0 != 43) = true := bne_iff_ne.mpr c9
         by_cases c10 : a0 = 45
         ·
          rw [if_pos c10] at H
          have c10b0 : (a0 == 45) = true := beq_iff_eq.mpr c10
          have c10b1 : (a0 != 45) = false := bne_eq_false_iff_eq.mpr c10
          clear c10
          obtain rfl := Option.some.inj H
          go_enter Tryz.func143, Tryz.ntmps143
          go_wp2
          go_ret
          exact ⟨E2_, D1_⟩
         ·
          rw [if_neg c10] at H
          have c10b0 : (a0 == 45) = false := beq_eq_false_iff_ne.mpr c10
          have c10b1 : (a0 != 45) = true := bne_iff_ne.mpr c10
          by_cases c11 : a0 = 46
          ·
           rw [if_pos c11] at H
           have c11b0 : (a0 == 46) = true := beq_iff_eq.mpr c11
           have c11b1 : (a0 != 46) = false := bne_eq_false_iff_eq.mpr c11
           clear c11
           obtain rfl := Option.some.inj H
           go_enter Tryz.func143, Tryz.ntmps143
           go_wp2
           go_ret
           exact ⟨E2_, D1_⟩
          ·
           rw [if_neg c11] at H
           have c11b0 : (a0 == 46) = false := beq_eq_false_iff_ne.mpr c11
           have c11b1 : (a0 != 46) = true := bne_iff_ne.mpr c11
           by_cases c12 : a0 = 94
           ·
            rw [if_pos c12] at H
            have c12b0 : (a0 == 94) = true := beq_iff_eq.mpr c12
            have c12b1 : (a0 != 94) = false := bne_eq_false_iff_eq.mpr c12
            clear c12
            obtain rfl := Option.some.inj H
            go_enter Tryz.func143, Tryz.ntmps143
            go_wp2
            go_ret
            exact ⟨E2_, D1_⟩
           ·
            rw [if_neg c12] at H
            have c12b0 : (a0 == 94) = false := beq_eq_false_iff_ne.mpr c12
            have c12b1 : (a0 != 94) = true := bne_iff_ne.mpr c12
            by_cases c13 : a0 = 95
            ·
             rw [if_pos c13] at H
             have c13b0 : (a0 == 95) = true := beq_iff_eq.mpr c13
             have c13b1 : (a0 != 95) = false := bne_eq_false_iff_eq.mpr c13
             clear c13
             obtain rfl := Option.some.inj H
             go_enter Tryz.func143, Tryz.ntmps143
             go_wp2
             go_ret
             exact ⟨E2_, D1_⟩
            ·
             rw [if_neg c13] at H
             have c13b0 : (a0 == 95) = false := beq_eq_false_iff_ne.mpr c13
             have c13b1 : (a0 != 95) = true := bne_iff_ne.mpr c13
             by_cases c14 : a0 = 124
             ·
              rw [if_pos c14] at H
              have c14b0 : (a0 == 124) = true := beq_iff_eq.mpr c14
              have c14b1 : (a0 != 124) = false := bne_eq_false_iff_eq.mpr c14
              clear c14
              obtain rfl := Option.some.inj H
              go_enter Tryz.func143, Tryz.ntmps143
              go_wp2
              go_ret
              exact ⟨E2_, D1_⟩
             ·
              rw [if_neg c14] at H
              have c14b0 : (a0 == 124) = false := beq_eq_false_iff_ne.mpr c14
              have c14b1 : (a0 != 124) = true := bne_iff_ne.mpr c14
              by_cases c15 : a0 = 126
              ·
               rw [if_pos c15] at H
               have c15b0 : (a0 == 126) = true := beq_iff_eq.mpr c15
               have c15b1 : (a0 != 126) = false := bne_eq_false_iff_eq.mpr c15
               clear c15
               obtain rfl := Option.some.inj H
               go_enter Tryz.func143, Tryz.ntmps143
               go_wp2
               go_ret
               exact ⟨E2_, D1_⟩
              ·
               rw [if_neg c15] at H
               have c15b0 : (a0 == 126) = false := beq_eq_false_iff_ne.mpr c15
               have c15b1 : (a0 != 126) = true := bne_iff_ne.mpr c15
               by_cases c16 : a0 = 96
               ·
                rw [if_pos c16] at H
                have c16b0 : (a0 == 96) = true := beq_iff_eq.mpr c16
                have c16b1 : (a0 != 96) = false := bne_eq_false_iff_eq.mpr c16
                clear c16
                obtain rfl := Option.some.inj H
                go_enter Tryz.func143, Tryz.ntmps143
                go_wp2
                go_ret
                exact ⟨E2_, D1_⟩
               ·
                rw [if_neg c16] at H
                have c16b0 : (a0 == 96) = false := beq_eq_false_iff_ne.mpr c16
                have c16b1 : (a0 != 96) = true := bne_iff_ne.mpr c16
                obtain ⟨t317, A17, H⟩ := bS_ H
                try dsimp only at H
                obtain rfl := Option.some.inj H
                go_enter Tryz.func143, Tryz.ntmps143
                go_wp2_with (first | ((with_reducible refine gate_callee (f := 148) rfl ?_); refine goesL_ (some 21) rfl rfl Tryz.func148 (by kernel_rfl) rfl #[.int .u8 a0] rfl T1_ ?_; (with_reducible refine (pantryref01_Letter.calls a0 t317 _ A17.out).mono ?_); rintro e w' ⟨rfl, ⟨nd, rfl⟩⟩; refine ⟨_, rfl, ?_⟩))
                go_ret
                exact ⟨E2_, D1_⟩

/-! ### pantryref01_Token: function 128 -/
def pantryref01_Token.l0 : Nat → ByteArray → Int → Option (Bool)
 | 0, _, _ => none
 | k + 1, x0, x3 => if x3 < (x0.size : Int) then (if 0 ≤ x3 then ((pantryref01_Sign.f (bt x0 x3)).bind fun t318 => (if t318 = true then (pantryref01_Token.l0 k x0 (wrap64 (x3 + 1))) else (some false))) else (none)) else (some (decide ((x0.size : Int) > 0)))
def pantryref01_Token.f (k : Nat) (a0 : ByteArray) : Option (Bool) := pantryref01_Token.l0 k a0 0
theorem pantryref01_Token.mono_l : ∀ k, (∀ y0 y1, LeO (pantryref01_Token.l0 k y0 y1) (pantryref01_Token.l0 (k + 1) y0 y1))
 | 0 => fun _ _ r h => by simp [pantryref01_Token.l0] at h
 | k + 1 => by
  have ih0 := pantryref01_Token.mono_l k
  ·
   intro y0 y1
   unfold pantryref01_Token.l0
   repeat' (with_reducible first | exact ih0 _ _ | exact lR_ | refine LeO.ite ?_ ?_ | refine LeO.bind ?_ (fun _ => ?_))
theorem pantryref01_Token.mono : ∀ a0 k, LeO (pantryref01_Token.f k a0) (pantryref01_Token.f (k + 1) a0) := by
 intro a0 k
 have ih0 := pantryref01_Token.mono_l k
 unfold pantryref01_Token.f
 repeat' (with_reducible first | exact ih0 _ _ | exact lR_ | refine LeO.ite ?_ ?_ | refine LeO.bind ?_ (fun _ => ?_))
set_option maxHeartbeats 8000000 in
set_option maxRecDepth 100000 in
theorem pantryref01_Token.calls (k : Nat) (a0 : ByteArray) (r : Bool) (w : World) (h : pantryref01_Token.f k a0 = some r) :
  Calls Tryz.prog 128 #[.string a0] w fun e w' => e = .returned (.bool r) ∧ Drawn0 w w' := by
 have H : (pantryref01_Token.l0 k a0 0) = some r := h
 clear h
 have H' := Aside0.mk H
 clear H
 go_enter Tryz.func128, Tryz.ntmps128
 go_wp2
 go_loopg [3] k (fun kq v3 w' => ∃ (x3_1 : Int), v3 = .int .i64 x3_1 ∧ Aside0 (pantryref01_Token.l0 kq a0 x3_1 = some r) ∧ Aside0 (kq ≤ k) ∧ Drawn0 w w')
 case atStart => exact ⟨(0), E3_, H', ⟨Nat.le_refl _⟩, D1_⟩
 case round =>
  clear H'
  obtain ⟨x3_1, rfl, HA, HK1, ⟨m1, rfl⟩⟩ := hrel
  cases gk with
  | zero => exact absurd HA.out (by simp [pantryref01_Token.l0])
  | succ k1 =>
   have H := HA.out
   clear HA
   simp only [pantryref01_Token.l0] at H
   by_cases c2 : x3_1 < (a0.size : Int)
   ·
    rw [if_pos c2] at H
    have c2b0 : decide (x3_1 < (a0.size : Int)) = true := decide_eq_true c2
    clear c2
    by_cases c3 : 0 ≤ x3_1
    ·
     rw [if_pos c3] at H
     have c3b0 : decide (0 ≤ x3_1) = true := decide_eq_true c3
     clear c3
     obtain ⟨t318, A5, H⟩ := bS_ H
     try dsimp only at H
     by_cases c6 : t318 = true
     ·
      subst c6
      rw [if_pos rfl] at H
      have H' := Aside0.mk H
      clear H
      have p4 : 0 ≤ (x3_1 : Int) := oA_
      have q4 : x3_1 < (a0.size : Int) := oA_
      have hx4 := bt_at a0 x3_1
      replace p4 := eq_true p4
      replace q4 := eq_true q4
      go_wp2_with (first | ((with_reducible refine gate_callee (f := 143) rfl ?_); refine goesL_ (some 13) rfl rfl Tryz.func143 (by kernel_rfl) rfl #[.int .u8 (bt a0 x3_1)] rfl T1_ ?_; (with_reducible refine (pantryref01_Sign.calls (bt a0 x3_1) true _ A5.out).mono ?_); rintro e w' ⟨rfl, ⟨nd, rfl⟩⟩; refine ⟨_, rfl, ?_⟩))
      go_roundg k1
      case measure => have := HK1.out; omega
      case rel => exact ⟨(wrap64 (x3_1 + 1)), E3_, H', ⟨by have := HK1.out; omega⟩, D1_⟩
     ·
      replace c6 := Bool.eq_false_iff.mpr c6
      subst c6
      rw [if_neg (show ¬ (false = true) by decide)] at H
      obtain rfl := Option.some.inj H
      have p4 : 0 ≤ (x3_1 : Int) := oA_
      have q4 : x3_1 < (a0.size : Int) := oA_
      have hx4 := bt_at a0 x3_1
      replace p4 := eq_true p4
      replace q4 := eq_true q4
      go_wp2_with (first | ((with_reducible refine gate_callee (f := 143) rfl ?_); refine goesL_ (some 13) rfl rfl Tryz.func143 (by kernel_rfl) rfl #[.int .u8 (bt a0 x3_1)] rfl T1_ ?_; (with_reducible refine (pantryref01_Sign.calls (bt a0 x3_1) false _ A5.out).mono ?_); rintro e w' ⟨rfl, ⟨nd, rfl⟩⟩; refine ⟨_, rfl, ?_⟩))
      go_ret
      exact ⟨E2_, D1_⟩
    ·
     rw [if_neg c3] at H
     exact absurd H (by simp)
   ·
    rw [if_neg c2] at H
    have c2b0 : decide (x3_1 < (a0.size : Int)) = false := decide_eq_false c2
    clear c2
    obtain rfl := Option.some.inj H
    go_wp2
    go_ret
    exact ⟨E2_, D1_⟩

end Go.Proofs.YtgpekljckdgggaaGreatDoor.PAll
