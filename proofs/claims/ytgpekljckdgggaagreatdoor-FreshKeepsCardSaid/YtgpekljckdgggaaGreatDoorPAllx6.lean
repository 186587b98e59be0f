import Derived.Test.YtgpekljckdgggaaGreatDoorPAllx0
namespace Go.Proofs.YtgpekljckdgggaaGreatDoor.PAll
open Go.RowKit Go.Proofs.YtgpekljckdgggaaGreatDoorW.PrintWords Go.Proofs.YtgpekljckdgggaaGreatDoorW.PrintLast Go.Proofs.YtgpekljckdgggaaGreatDoorW.PrintMore
attribute [local go_sem] max2_int min2_int max_two min_two max_three min_three max_four min_four   -- for this text's walks alone
set_option linter.unusedVariables false
set_option linter.unusedSimpArgs false

/-! ### fresh_times: function 34 -/
def fresh_times.l0 : Nat → List Int → Int → Int → Option (Bool)
 | 0, _, _, _ => none
 | k + 1, x5, x6, x7 => if x7 < x6 then (if 0 ≤ x7 then (if x7 < (x5.length : Int) then (if (rd x5 x7) < 0 then (some false) else (if (rd x5 x7) > 253402300799 then (some false) else (fresh_times.l0 k x5 x6 (wrap64 (x7 + 1))))) else (none)) else (none)) else (some true)
def fresh_times.f (k : Nat) (l0 : List Int) : Option (Bool) := fresh_times.l0 k l0 (l0.length : Int) 0
theorem fresh_times.mono_l : ∀ k, (∀ y0 y1 y2, LeO (fresh_times.l0 k y0 y1 y2) (fresh_times.l0 (k + 1) y0 y1 y2))
 | 0 => fun _ _ _ r h => by simp [fresh_times.l0] at h
 | k + 1 => by
  have ih0 := fresh_times.mono_l k
  ·
   intro y0 y1 y2
   unfold fresh_times.l0
   repeat' (with_reducible first | exact ih0 _ _ _ | exact lR_ | refine LeO.ite ?_ ?_ | refine LeO.bind ?_ (fun _ => ?_))
theorem fresh_times.mono : ∀ a0 k, LeO (fresh_times.f k a0) (fresh_times.f (k + 1) a0) := by
 intro a0 k
 have ih0 := fresh_times.mono_l k
 unfold fresh_times.f
 repeat' (with_reducible first | exact ih0 _ _ _ | exact lR_ | refine LeO.ite ?_ ?_ | refine LeO.bind ?_ (fun _ => ?_))
set_option maxHeartbeats 8000000 in
set_option maxRecDepth 100000 in
theorem fresh_times.calls (k : Nat) (A0 : Option Addr) (c0 : Nat) (l0 : List Int) (r : Bool) (w : World) (hr0 : Kd.C (Kd.int .i64) w A0 l0.length l0) (hc0 : l0.length ≤ c0) (h : fresh_times.f k l0 = some r) :
  Calls Tryz.prog 34 #[.slice A0 l0.length c0] w fun e w' => e = .returned (.bool r) ∧ Drawn0 w w' := by
 have HR0 := Aside0.mk hr0
 have HC0 := Aside0.mk hc0
 clear hr0 hc0
 have H : (fresh_times.l0 k l0 (l0.length : Int) 0) = some r := h
 clear h
 have H' := Aside0.mk H
 clear H
 go_enter Tryz.func34, Tryz.ntmps34
 go_wp2
 go_loopg [7] k (fun kq v7 w' => ∃ (x7_1 : Int), v7 = .int .i64 x7_1 ∧ Aside0 (fresh_times.l0 kq l0 (l0.length : Int) x7_1 = some r) ∧ Aside0 (kq ≤ k) ∧ Drawn0 w w')
 case atStart => exact ⟨(0), E3_, H', ⟨Nat.le_refl _⟩, D1_⟩
 case round =>
  clear H'
  obtain ⟨x7_1, rfl, HA, HK1, ⟨m1, rfl⟩⟩ := hrel
  cases gk with
  | zero => exact absurd HA.out (by simp [fresh_times.l0])
  | succ k1 =>
   have H := HA.out
   clear HA
   simp only [fresh_times.l0] at H
   by_cases c2 : x7_1 < (l0.length : Int)
   ·
    rw [if_pos c2] at H
    have c2b0 : decide (x7_1 < (l0.length : Int)) = true := decide_eq_true c2
    clear c2
    by_cases c3 : 0 ≤ x7_1
    ·
     rw [if_pos c3] at H
     have c3b0 : decide (0 ≤ x7_1) = true := decide_eq_true c3
     clear c3
     by_cases c4 : x7_1 < (l0.length : Int)
     ·
      rw [if_pos c4] at H
      have c4b0 : decide (x7_1 < (l0.length : Int)) = true := decide_eq_true c4
      clear c4
      by_cases c5 : (rd l0 x7_1) < 0
      ·
       rw [if_pos c5] at H
       have c5b0 : decide ((rd l0 x7_1) < 0) = true := decide_eq_true c5
       clear c5
       obtain rfl := Option.some.inj H
       have p173 : 0 ≤ (x7_1 : Int) := oA_
       have q173 : x7_1 < (l0.length : Int) := oA_
       obtain ⟨ad173, e173, hx173_0⟩ := Kd.at_int HR0.out x7_1 p173 q173
       cases e173
       replace p173 := eq_true p173
       replace q173 := eq_true q173
       go_wp2
       go_ret
       exact ⟨E2_, D1_⟩
      ·
       rw [if_neg c5] at H
       have c5b0 : decide ((rd l0 x7_1) < 0) = false := decide_eq_false c5
       clear c5
       by_cases c6 : (rd l0 x7_1) > 253402300799
       ·
        rw [if_pos c6] at H
        have c6b0 : decide (253402300799 < (rd l0 x7_1)) = true := decide_eq_true c6
        clear c6
        obtain rfl := Option.some.inj H
        have p173 : 0 ≤ (x7_1 : Int) := oA_
        have q173 : x7_1 < (l0.length : Int) := oA_
        obtain ⟨ad173, e173, hx173_0⟩ := Kd.at_int HR0.out x7_1 p173 q173
        cases e173
        replace p173 := eq_true p173
        replace q173 := eq_true q173
        go_wp2
        go_ret
        exact ⟨E2_, D1_⟩
       ·
        rw [if_neg c6] at H
        have c6b0 : decide (253402300799 < (rd l0 x7_1)) = false := decide_eq_false c6
        clear c6
        have H' := Aside0.mk H
        clear H
        have p173 : 0 ≤ (x7_1 : Int) := oA_
        have q173 : x7_1 < (l0.length : Int) := oA_
        obtain ⟨ad173, e173, hx173_0⟩ := Kd.at_int HR0.out x7_1 p173 q173
        cases e173
        replace p173 := eq_true p173
        replace q173 := eq_true q173
        go_wp2
        go_roundg k1
        case measure => have := HK1.out; omega
        case rel => exact ⟨(wrap64 (x7_1 + 1)), E3_, H', ⟨by have := HK1.out; omega⟩, D1_⟩
     ·
      rw [if_neg c4] at H
      exact absurd H (by simp)
    ·
     rw [if_neg c3] at H
     exact absurd H (by simp)
   ·
    rw [if_neg c2] at H
    have c2b0 : decide (x7_1 < (l0.length : Int)) = false := decide_eq_false c2
    clear c2
    obtain rfl := Option.some.inj H
    go_wp2
    go_ret
    exact ⟨E2_, D1_⟩

/-! ### strings_Index: function 82, by hand -/
def strings_Index.f (a0 a1 : ByteArray) : Option Int := if a0.size < 4294967281 then some (Lib.index a0.data.toList a1.data.toList) else none
theorem strings_Index.calls (a0 a1 : ByteArray) (r : Int) (w : World) (hrW : WF w) (h : strings_Index.f a0 a1 = some r) :
  Calls Tryz.prog 82 #[.string a0, .string a1] w fun e w' => e = .returned (.int .i64 r) ∧ Drawn0 w w' := by
 unfold strings_Index.f at h
 by_cases hs : a0.size < 4294967281
 ·
  rw [if_pos hs] at h
  obtain rfl := Option.some.inj h
  obtain ⟨m, hm⟩ := hrW
  refine (Tryz.strings_Index a0 a1 m w hs hm).mono ?_
  rintro e w' ⟨rfl, rfl⟩
  exact ⟨rfl, Drawn0.refl _⟩
 ·
  rw [if_neg hs] at h
  cases h

/-! ### date_digits: function 83 -/
def date_digits.l0 : Nat → ByteArray → Int → Int → Int → Option (Int)
 | 0, _, _, _, _ => none
 | k + 1, x0, x3, x6, x7 => if x7 < x6 then (if 0 ≤ x7 then (if x7 < (x0.size : Int) then (if (bt x0 x7) < 48 then (some (-1)) else (if (bt x0 x7) > 57 then (some (-1)) else (date_digits.l0 k x0 (wrap64 ((wrap64 (10 * x3)) + (((bt x0 x7) - 48) % 256))) x6 (wrap64 (x7 + 1))))) else (none)) else (none)) else (some x3)
def date_digits.f (k : Nat) (a0 : ByteArray) : Option (Int) := date_digits.l0 k a0 0 (a0.size : Int) 0
theorem date_digits.mono_l : ∀ k, (∀ y0 y1 y2 y3, LeO (date_digits.l0 k y0 y1 y2 y3) (date_digits.l0 (k + 1) y0 y1 y2 y3))
 | 0 => fun _ _ _ _ r h => by simp [date_digits.l0] at h
 | k + 1 => by
  have ih0 := date_digits.mono_l k
  ·
   intro y0 y1 y2 y3
   unfold date_digits.l0
   repeat' (with_reducible first | exact ih0 _ _ _ _ | exact lR_ | refine LeO.ite ?_ ?_ | refine LeO.bind ?_ (fun _ => ?_))
theorem date_digits.mono : ∀ a0 k, LeO (date_digits.f k a0) (date_digits.f (k + 1) a0) := by
 intro a0 k
 have ih0 := date_digits.mono_l k
 unfold date_digits.f
 repeat' (with_reducible first | exact ih0 _ _ _ _ | exact lR_ | refine LeO.ite ?_ ?_ | refine LeO.bind ?_ (fun _ => ?_))
set_option maxHeartbeats 8000000 in
set_option maxRecDepth 100000 in
theorem date_digits.calls (k : Nat) (a0 : ByteArray) (r : Int) (w : World) (h : date_digits.f k a0 = some r) :
  Calls Tryz.prog 83 #[.string a0] w fun e w' => e = .returned (.int .i64 r) ∧ Drawn0 w w' := by
 have H : (date_digits.l0 k a0 0 (a0.size : Int) 0) = some r := h
 clear h
 have H' := Aside0.mk H
 clear H
 go_enter Tryz.func83, Tryz.ntmps83
 go_wp2
 go_loopg [3, 7] k (fun kq v3 v7 w' => ∃ (x3_1 : Int) (x7_1 : Int), v3 = .int .i64 x3_1 ∧ v7 = .int .i64 x7_1 ∧ Aside0 (date_digits.l0 kq a0 x3_1 (a0.size : Int) x7_1 = some r) ∧ Aside0 (kq ≤ k) ∧ Drawn0 w w')
 case atStart => exact ⟨(0), (0), E3_, E3_, H', ⟨Nat.le_refl _⟩, D1_⟩
 case round =>
  clear H'
  obtain ⟨x3_1, x7_1, rfl, rfl, HA, HK1, ⟨m1, rfl⟩⟩ := hrel
  cases gk with
  | zero => exact absurd HA.out (by simp [date_digits.l0])
  | succ k1 =>
   have H := HA.out
   clear HA
   simp only [date_digits.l0] at H
   by_cases c2 : x7_1 < (a0.size : Int)
   ·
    rw [if_pos c2] at H
    have c2b0 : decide (x7_1 < (a0.size : Int)) = true := decide_eq_true c2
    clear c2
    by_cases c3 : 0 ≤ x7_1
    ·
     rw [if_pos c3] at H
     have c3b0 : decide (0 ≤ x7_1) = true := decide_eq_true c3
     clear c3
     by_cases c4 : x7_1 < (a0.size : Int)
     ·
      rw [if_pos c4] at H
      have c4b0 : decide (x7_1 < (a0.size : Int)) = true := decide_eq_true c4
      clear c4
      by_cases c6 : (bt a0 x7_1) < 48
      ·
       rw [if_pos c6] at H
       have c6b0 : decide ((bt a0 x7_1) < 48) = true := decide_eq_true c6
       clear c6
       obtain rfl := Option.some.inj H
       have p5 : 0 ≤ (x7_1 : Int) := oA_
       have q5 : x7_1 < (a0.size : Int) := oA_
       have hx5 := bt_at a0 x7_1
       replace p5 := eq_true p5
       replace q5 := eq_true q5
       go_wp2
       go_ret
       exact ⟨E2_, D1_⟩
      ·
       rw [if_neg c6] at H
       have c6b0 : decide ((bt a0 x7_1) < 48) = false := decide_eq_false c6
       clear c6
       by_cases c8 : (bt a0 x7_1) > 57
       ·
        rw [if_pos c8] at H
        have c8b0 : decide (57 < (bt a0 x7_1)) = true := decide_eq_true c8
        clear c8
        obtain rfl := Option.some.inj H
        have p5 : 0 ≤ (x7_1 : Int) := oA_
        have q5 : x7_1 < (a0.size : Int) := oA_
        have hx5 := bt_at a0 x7_1
        replace p5 := eq_true p5
        replace q5 := eq_true q5
        have p7 : 0 ≤ (x7_1 : Int) := oA_
        have q7 : x7_1 < (a0.size : Int) := oA_
        have hx7 := bt_at a0 x7_1
        replace p7 := eq_true p7
        replace q7 := eq_true q7
        go_wp2
        go_ret
        exact ⟨E2_, D1_⟩
       ·
        rw [if_neg c8] at H
        have c8b0 : decide (57 < (bt a0 x7_1)) = false := decide_eq_false c8
        clear c8
        have H' := Aside0.mk H
        clear H
        have p5 : 0 ≤ (x7_1 : Int) := oA_
        have q5 : x7_1 < (a0.size : Int) := oA_
        have hx5 := bt_at a0 x7_1
        replace p5 := eq_true p5
        replace q5 := eq_true q5
        have p7 : 0 ≤ (x7_1 : Int) := oA_
        have q7 : x7_1 < (a0.size : Int) := oA_
        have hx7 := bt_at a0 x7_1
        replace p7 := eq_true p7
        replace q7 := eq_true q7
        have p9 : 0 ≤ (x7_1 : Int) := oA_
        have q9 : x7_1 < (a0.size : Int) := oA_
        have hx9 := bt_at a0 x7_1
        replace p9 := eq_true p9
        replace q9 := eq_true q9
        go_wp2
        go_roundg k1
        case measure => have := HK1.out; omega
        case rel => exact ⟨(wrap64 ((wrap64 (10 * x3_1)) + (((bt a0 x7_1) - 48) % 256))), (wrap64 (x7_1 + 1)), E3_, E3_, H', ⟨by have := HK1.out; omega⟩, D1_⟩
     ·
      rw [if_neg c4] at H
      exact absurd H (by simp)
    ·
     rw [if_neg c3] at H
     exact absurd H (by simp)
   ·
    rw [if_neg c2] at H
    have c2b0 : decide (x7_1 < (a0.size : Int)) = false := decide_eq_false c2
    clear c2
    obtain rfl := Option.some.inj H
    go_wp2
    go_ret
    exact ⟨E2_, D1_⟩

/-! ### date_leap: function 110 -/
def date_leap.f (a0 : Int) : Option (Bool) := if (Int.tmod a0 4) = 0 then (if (Int.tmod a0 100) = 0 then (some ((Int.tmod a0 400) == 0)) else (some true)) else (some ((Int.tmod a0 400) == 0))
set_option maxHeartbeats 8000000 in
set_option maxRecDepth 100000 in
theorem date_leap.calls (a0 : Int) (r : Bool) (w : World) (h : date_leap.f a0 = some r) :
  Calls Tryz.prog 110 #[.int .i64 a0] w fun e w' => e = .returned (.bool r) ∧ Drawn0 w w' := by
 have H : (if (Int.tmod a0 4) = 0 then (if (Int.tmod a0 100) = 0 then (some ((Int.tmod a0 400) == 0)) else (some true)) else (some ((Int.tmod a0 400) == 0))) = some r := h
 clear h
 by_cases c2 : (Int.tmod a0 4) = 0
 ·
  rw [if_pos c2] at H
  have c2b0 : ((Int.tmod a0 4) == 0) = true := beq_iff_eq.mpr c2
  have c2b1 : ((Int.tmod a0 4) != 0) = false := bne_eq_false_iff_eq.mpr c2
  clear c2
  by_cases c3 : (Int.tmod a0 100) = 0
  ·
   rw [if_pos c3] at H
   have c3b0 : ((Int.tmod a0 100) == 0) = true := beq_iff_eq.mpr c3
   have c3b1 : ((Int.tmod a0 100) != 0) = false := bne_eq_false_iff_eq.mpr c3
   clear c3
   obtain rfl := Option.some.inj H
   go_enter Tryz.func110, Tryz.ntmps110
   go_wp2
   go_ret
   exact ⟨E2_, D1_⟩
  ·
   rw [if_neg c3] at H
   have c3b0 : ((Int.tmod a0 100) == 0) = false := beq_eq_false_iff_ne.mpr c3
   have c3b1 : ((Int.tmod a0 100) != 0) = true := bne_iff_ne.mpr c3
   obtain rfl := Option.some.inj H
   go_enter Tryz.func110, Tryz.ntmps110
   go_wp2
   go_ret
   exact ⟨E2_, D1_⟩
 ·
  rw [if_neg c2] at H
  have c2b0 : ((Int.tmod a0 4) == 0) = false := beq_eq_false_iff_ne.mpr c2
  have c2b1 : ((Int.tmod a0 4) != 0) = true := bne_iff_ne.mpr c2
  obtain rfl := Option.some.inj H
  go_enter Tryz.func110, Tryz.ntmps110
  go_wp2
  go_ret
  exact ⟨E2_, D1_⟩

/-! ### date_Days: function 84 -/
mutual
def date_Days.j0 : Nat → Int → Int → Bool → Option (Int)
 | 0, _, _, _ => none
 | k + 1, x0, x1, x5 => if x5 = true then (some 0) else (if x1 = 2 then ((date_leap.f x0).bind fun t174 => (date_Days.j1 k x1 t174)) else (date_Days.j1 k x1 false))
def date_Days.j1 : Nat → Int → Bool → Option (Int)
 | 0, _, _ => none
 | k + 1, x1, x20 => if x20 = true then (some 29) else (if x1 = 2 then (some 28) else (if x1 = 4 then (some 30) else (if x1 = 6 then (some 30) else (if x1 = 9 then (some 30) else (if x1 = 11 then (some 30) else (some 31))))))
end
def date_Days.f (k : Nat) (a0 : Int) (a1 : Int) : Option (Int) := if a0 < 1970 then (date_Days.j0 k a0 a1 true) else (if a0 > 9999 then (date_Days.j0 k a0 a1 true) else (if a1 < 1 then (date_Days.j0 k a0 a1 true) else (date_Days.j0 k a0 a1 (decide (a1 > 12)))))
theorem date_Days.mono_l : ∀ k, (∀ y0 y1 y2, LeO (date_Days.j0 k y0 y1 y2) (date_Days.j0 (k + 1) y0 y1 y2)) ∧ (∀ y0 y1, LeO (date_Days.j1 k y0 y1) (date_Days.j1 (k + 1) y0 y1))
 | 0 => ⟨fun _ _ _ r h => by simp [date_Days.j0] at h, fun _ _ r h => by simp [date_Days.j1] at h⟩
 | k + 1 => by
  obtain ⟨ih0, ih1⟩ := date_Days.mono_l k
  refine ⟨?_, ?_⟩
  ·
   intro y0 y1 y2
   unfold date_Days.j0
   repeat' (with_reducible first | exact ih0 _ _ _ | exact ih1 _ _ | exact lR_ | refine LeO.ite ?_ ?_ | refine LeO.bind ?_ (fun _ => ?_))
  ·
   intro y0 y1
   unfold date_Days.j1
   repeat' (with_reducible first | exact ih0 _ _ _ | exact ih1 _ _ | exact lR_ | refine LeO.ite ?_ ?_ | refine LeO.bind ?_ (fun _ => ?_))
theorem date_Days.mono : ∀ a0 a1 k, LeO (date_Days.f k a0 a1) (date_Days.f (k + 1) a0 a1) := by
 intro a0 a1 k
 obtain ⟨ih0, ih1⟩ := date_Days.mono_l k
 unfold date_Days.f
 repeat' (with_reducible first | exact ih0 _ _ _ | exact ih1 _ _ | exact lR_ | refine LeO.ite ?_ ?_ | refine LeO.bind ?_ (fun _ => ?_))
set_option maxHeartbeats 8000000 in
set_option maxRecDepth 100000 in
theorem date_Days.calls (k : Nat) (a0 : Int) (a1 : Int) (r : Int) (w : World) (h : date_Days.f k a0 a1 = some r) :
  Calls Tryz.prog 84 #[.int .i64 a0, .int .i64 a1] w fun e w' => e = .returned (.int .i64 r) ∧ Drawn0 w w' := by
 have H : (if a0 < 1970 then (date_Days.j0 k a0 a1 true) else (if a0 > 9999 then (date_Days.j0 k a0 a1 true) else (if a1 < 1 then (date_Days.j0 k a0 a1 true) else (date_Days.j0 k a0 a1 (decide (a1 > 12)))))) = some r := h
 clear h
 have HC3 := Aside0.mk H
 clear H
 go_enter Tryz.func84, Tryz.ntmps84
 go_upto_region 1 with (fail)
 go_cut [5] (fun v5 wc => ∃ (kq : Nat) (x5_2 : Bool), v5 = .bool x5_2 ∧ Aside0 (date_Days.j0 kq a0 a1 x5_2 = some r) ∧ Aside0 (kq ≤ k) ∧ Drawn0 w wc)
 case first =>
  have H := HC3.out
  clear HC3
  by_cases c4 : a0 < 1970
  ·
   rw [if_pos c4] at H
   have c4b0 : decide (a0 < 1970) = true := decide_eq_true c4
   clear c4
   (first | rw [c4b0] | (simp only [i64_w, i32_w]; rw [c4b0]) | skip)
   have H' := Aside0.mk H
   clear H
   go_wp2
   go_meet
   case rel => exact ⟨_, (true), E3_, H', ⟨by first | omega | exact Nat.le_refl _⟩, D1_⟩
  ·
   rw [if_neg c4] at H
   have c4b0 : decide (a0 < 1970) = false := decide_eq_false c4
   clear c4
   (first | rw [c4b0] | (simp only [i64_w, i32_w]; rw [c4b0]) | skip)
   by_cases c5 : a0 > 9999
   ·
    rw [if_pos c5] at H
    have c5b0 : decide (9999 < a0) = true := decide_eq_true c5
    clear c5
    have H' := Aside0.mk H
    clear H
    go_wp2
    go_meet
    case rel => exact ⟨_, (true), E3_, H', ⟨by first | omega | exact Nat.le_refl _⟩, D1_⟩
   ·
    rw [if_neg c5] at H
    have c5b0 : decide (9999 < a0) = false := decide_eq_false c5
    clear c5
    by_cases c6 : a1 < 1
    ·
     rw [if_pos c6] at H
     have c6b0 : decide (a1 < 1) = true := decide_eq_true c6
     clear c6
     have H' := Aside0.mk H
     clear H
     go_wp2
     go_meet
     case rel => exact ⟨_, (true), E3_, H', ⟨by first | omega | exact Nat.le_refl _⟩, D1_⟩
    ·
     rw [if_neg c6] at H
     have c6b0 : decide (a1 < 1) = false := decide_eq_false c6
     clear c6
     have H' := Aside0.mk H
     clear H
     go_wp2
     go_meet
     case rel => exact ⟨_, (decide (a1 > 12)), E3_, H', ⟨by first | omega | exact Nat.le_refl _⟩, D1_⟩
 case rest =>
  clear HC3
  (try clear c4); (try clear c4b0); (try clear c5); (try clear c5b0); (try clear c6); (try clear c6b0)
  obtain ⟨kq, x5_2, rfl, HA, HJ2, ⟨mc2, rfl⟩⟩ := hcut
  cases kq with
  | zero => exact absurd HA.out (by simp [date_Days.j0])
  | succ kj2 =>
   have H := HA.out
   clear HA
   simp only [date_Days.j0] at H
   by_cases c7 : x5_2 = true
   ·
    subst c7
    rw [if_pos rfl] at H
    obtain rfl := Option.some.inj H
    go_wp2
    go_ret
    exact ⟨E2_, D1_⟩
   ·
    replace c7 := Bool.eq_false_iff.mpr c7
    subst c7
    rw [if_neg (show ¬ (false = true) by decide)] at H
    have HC8 := Aside0.mk H
    clear H
    go_upto_region 3 with (fail)
    go_cut [20] (fun v20 wc => ∃ (kq : Nat) (x20_7 : Bool), v20 = .bool x20_7 ∧ Aside0 (date_Days.j1 kq a1 x20_7 = some r) ∧ Aside0 (kq ≤ kj2) ∧ Drawn0 w wc)
    case first =>
     have H := HC8.out
     clear HC8
     by_cases c9 : a1 = 2
     ·
      rw [if_pos c9] at H
      have c9b0 : (a1 == 2) = true := beq_iff_eq.mpr c9
      have c9b1 : (a1 != 2) = false := bne_eq_false_iff_eq.mpr c9
      clear c9
      (first | rw [c9b0] | (simp only [i64_w, i32_w]; rw [c9b0]) | skip)
      obtain ⟨t174, A10, H⟩ := bS_ H
      try dsimp only at H
      have H' := Aside0.mk H
      clear H
      go_wp2_with (first | (go_at_call 110; (with_reducible refine (date_leap.calls a0 t174 _ A10.out).mono ?_); rintro e w' ⟨rfl, ⟨nd, rfl⟩⟩))
      go_meet
      case rel => exact ⟨_, (t174), E3_, H', ⟨by have := HJ2.out; first | omega | exact Nat.le_refl _⟩, D1_⟩
     ·
      rw [if_neg c9] at H
      have c9b0 : (a1 == 2) = false := beq_eq_false_iff_ne.mpr c9
      have c9b1 : (a1 != 2) = true := bne_iff_ne.mpr c9
      (first | rw [c9b0] | (simp only [i64_w, i32_w]; rw [c9b0]) | skip)
      have H' := Aside0.mk H
      clear H
      go_wp2
      go_meet
      case rel => exact ⟨_, (false), E3_, H', ⟨by have := HJ2.out; first | omega | exact Nat.le_refl _⟩, D1_⟩
    case rest =>
     clear HC8
     (try clear c4); (try clear c4b0); (try clear c5); (try clear c5b0); (try clear c6); (try clear c6b0); (try clear c7); (try clear c9); (try clear c9b0); (try clear c9b1)
     obtain ⟨kq, x20_7, rfl, HA, HJ7, ⟨mc7, rfl⟩⟩ := hcut
     cases kq with
     | zero => exact absurd HA.out (by simp [date_Days.j1])
     | succ kj7 =>
      have H := HA.out
      clear HA
      simp only [date_Days.j1] at H
      by_cases c11 : x20_7 = true
      ·
       subst c11
       rw [if_pos rfl] at H
       obtain rfl := Option.some.inj H
       go_wp2
       go_ret
       exact ⟨E2_, D1_⟩
      ·
       replace c11 := Bool.eq_false_iff.mpr c11
       subst c11
       rw [if_neg (show ¬ (false = true) by decide)] at H
       by_cases c12 : a1 = 2
       ·
        rw [if_pos c12] at H
        have c12b0 : (a1 == 2) = true := beq_iff_eq.mpr c12
        have c12b1 : (a1 != 2) = false := bne_eq_false_iff_eq.mpr c12
        clear c12
        obtain rfl := Option.some.inj H
        go_wp2
        go_ret
        exact ⟨E2_, D1_⟩
       ·
        rw [if_neg c12] at H
        have c12b0 : (a1 == 2) = false := beq_eq_false_iff_ne.mpr c12
        have c12b1 : (a1 != 2) = true := bne_iff_ne.mpr c12
        by_cases c13 : a1 = 4
        ·
         rw [if_pos c13] at H
         have c13b0 : (a1 == 4) = true := beq_iff_eq.mpr c13
         have c13b1 : (a1 != 4) = false := bne_eq_false_iff_eq.mpr c13
         clear c13
         obtain rfl := Option.some.inj H
         go_wp2
         go_ret
         exact ⟨E2_, D1_⟩
        ·
         rw [if_neg c13] at H
         have c13b0 : (a1 == 4) = false := beq_eq_false_iff_ne.mpr c13
         have c13b1 : (a1 != 4) = true := bne_iff_ne.mpr c13
         by_cases c14 : a1 = 6
         ·
          rw [if_pos c14] at H
          have c14b0 : (a1 == 6) = true := beq_iff_eq.mpr c14
          have c14b1 : (a1 != 6) = false := bne_eq_false_iff_eq.mpr c14
          clear c14
          obtain rfl := Option.some.inj H
          go_wp2
          go_ret
          exact ⟨E2_, D1_⟩
         ·
          rw [if_neg c14] at H
          have c14b0 : (a1 == 6) = false := beq_eq_false_iff_ne.mpr c14
          have c14b1 : (a1 != 6) = true := bne_iff_ne.mpr c14
          by_cases c15 : a1 = 9
          ·
           rw [if_pos c15] at H
           have c15b0 : (a1 == 9) = true := beq_iff_eq.mpr c15
           have c15b1 : (a1 != 9) = false := bne_eq_false_iff_eq.mpr c15
           clear c15
           obtain rfl := Option.some.inj H
           go_wp2
           go_ret
           exact ⟨E2_, D1_⟩
          ·
           rw [if_neg c15] at H
           have c15b0 : (a1 == 9) = false := beq_eq_false_iff_ne.mpr c15
           have c15b1 : (a1 != 9) = true := bne_iff_ne.mpr c15
           by_cases c16 : a1 = 11
           ·
            rw [if_pos c16] at H
            have c16b0 : (a1 == 11) = true := beq_iff_eq.mpr c16
            have c16b1 : (a1 != 11) = false := bne_eq_false_iff_eq.mpr c16
            clear c16
            obtain rfl := Option.some.inj H
            go_wp2
            go_ret
            exact ⟨E2_, D1_⟩
           ·
            rw [if_neg c16] at H
            have c16b0 : (a1 == 11) = false := beq_eq_false_iff_ne.mpr c16
            have c16b1 : (a1 != 11) = true := bne_iff_ne.mpr c16
            obtain rfl := Option.some.inj H
            go_wp2
            go_ret
            exact ⟨E2_, D1_⟩

/-! ### date_before: function 85 -/
def date_before.f (a0 : Int) : Option (Int) := some (wrap64 ((wrap64 ((wrap64 ((wrap64 ((wrap64 ((wrap64 (a0 - 1)) * 365)) + (wrap64 (Int.tdiv (wrap64 (a0 - 1)) 4)))) - (wrap64 (Int.tdiv (wrap64 (a0 - 1)) 100)))) + (wrap64 (Int.tdiv (wrap64 (a0 - 1)) 400)))) - 719162))
set_option maxHeartbeats 8000000 in
set_option maxRecDepth 100000 in
theorem date_before.calls (a0 : Int) (r : Int) (w : World) (h : date_before.f a0 = some r) :
  Calls Tryz.prog 85 #[.int .i64 a0] w fun e w' => e = .returned (.int .i64 r) ∧ Drawn0 w w' := by
 have H : (some (wrap64 ((wrap64 ((wrap64 ((wrap64 ((wrap64 ((wrap64 (a0 - 1)) * 365)) + (wrap64 (Int.tdiv (wrap64 (a0 - 1)) 4)))) - (wrap64 (Int.tdiv (wrap64 (a0 - 1)) 100)))) + (wrap64 (Int.tdiv (wrap64 (a0 - 1)) 400)))) - 719162))) = some r := h
 clear h
 obtain rfl := Option.some.inj H
 go_enter Tryz.func85, Tryz.ntmps85
 go_wp2
 go_ret
 exact ⟨E2_, D1_⟩

/-! ### date_Split: function 111 -/
mutual
def date_Split.j0 : Nat → Int → Bool → Option (Int × Int × Int × Int × Int)
 | 0, _, _ => none
 | k + 1, x0, x13 => if x13 = true then (some (0, 0, 0, 0, 11)) else (date_Split.l0 k x0 (wrap64 (1970 + (wrap64 (Int.tdiv (wrap64 (Int.tdiv x0 86400)) 366)))) (wrap64 (Int.tdiv x0 86400)))
def date_Split.l0 : Nat → Int → Int → Int → Option (Int × Int × Int × Int × Int)
 | 0, _, _, _ => none
 | k + 1, x0, x2, x7 => (date_before.f (wrap64 (x2 + 1))).bind fun t175 => (if t175 ≤ x7 then (date_Split.l0 k x0 (wrap64 (x2 + 1)) x7) else ((date_before.f x2).bind fun t176 => (date_Split.l1 k x0 x2 1 (wrap64 (x7 - t176)))))
def date_Split.l1 : Nat → Int → Int → Int → Int → Option (Int × Int × Int × Int × Int)
 | 0, _, _, _, _ => none
 | k + 1, x0, x2, x3, x7 => (date_Days.f k x2 x3).bind fun t177 => (if x7 ≥ t177 then ((date_Days.f k x2 x3).bind fun t178 => (date_Split.l1 k x0 x2 (wrap64 (x3 + 1)) (wrap64 (x7 - t178)))) else (some (x2, x3, wrap64 (x7 + 1), Int.tmod x0 86400, 0)))
end
def date_Split.f (k : Nat) (a0 : Int) : Option (Int × Int × Int × Int × Int) := if a0 < 0 then (date_Split.j0 k a0 true) else (date_Split.j0 k a0 (decide (a0 > 253402300799)))
theorem date_Split.mono_l : ∀ k, (∀ y0 y1, LeO (date_Split.j0 k y0 y1) (date_Split.j0 (k + 1) y0 y1)) ∧ (∀ y0 y1 y2, LeO (date_Split.l0 k y0 y1 y2) (date_Split.l0 (k + 1) y0 y1 y2)) ∧ (∀ y0 y1 y2 y3, LeO (date_Split.l1 k y0 y1 y2 y3) (date_Split.l1 (k + 1) y0 y1 y2 y3))
 | 0 => ⟨fun _ _ r h => by simp [date_Split.j0] at h, fun _ _ _ r h => by simp [date_Split.l0] at h, fun _ _ _ _ r h => by simp [date_Split.l1] at h⟩
 | k + 1 => by
  obtain ⟨ih0, ih1, ih2⟩ := date_Split.mono_l k
  refine ⟨?_, ?_, ?_⟩
  ·
   intro y0 y1
   unfold date_Split.j0
   repeat' (with_reducible first | exact ih0 _ _ | exact ih1 _ _ _ | exact ih2 _ _ _ _ | exact date_Days.mono _ _ _ | exact lR_ | refine LeO.ite ?_ ?_ | refine LeO.bind ?_ (fun _ => ?_))
  ·
   intro y0 y1 y2
   unfold date_Split.l0
   repeat' (with_reducible first | exact ih0 _ _ | exact ih1 _ _ _ | exact ih2 _ _ _ _ | exact date_Days.mono _ _ _ | exact lR_ | refine LeO.ite ?_ ?_ | refine LeO.bind ?_ (fun _ => ?_))
  ·
   intro y0 y1 y2 y3
   unfold date_Split.l1
   repeat' (with_reducible first | exact ih0 _ _ | exact ih1 _ _ _ | exact ih2 _ _ _ _ | exact date_Days.mono _ _ _ | exact lR_ | refine LeO.ite ?_ ?_ | refine LeO.bind ?_ (fun _ => ?_))
theorem date_Split.mono : ∀ a0 k, LeO (date_Split.f k a0) (date_Split.f (k + 1) a0) := by
 intro a0 k
 obtain ⟨ih0, ih1, ih2⟩ := date_Split.mono_l k
 unfold date_Split.f
 repeat' (with_reducible first | exact ih0 _ _ | exact ih1 _ _ _ | exact ih2 _ _ _ _ | exact date_Days.mono _ _ _ | exact lR_ | refine LeO.ite ?_ ?_ | refine LeO.bind ?_ (fun _ => ?_))
set_option maxHeartbeats 8000000 in
set_option maxRecDepth 100000 in
theorem date_Split.calls (k : Nat) (a0 : Int) (r1 : Int) (r2 : Int) (r3 : Int) (r4 : Int) (r5 : Int) (w : World) (h : date_Split.f k a0 = some (r1, r2, r3, r4, r5)) :
  Calls Tryz.prog 111 #[.int .i64 a0] w fun e w' => e = .returned (.tuple #[.int .i64 r1, .int .i64 r2, .int .i64 r3, .int .i64 r4, .int .i64 r5]) ∧ Drawn0 w w' := by
 have H : (if a0 < 0 then (date_Split.j0 k a0 true) else (date_Split.j0 k a0 (decide (a0 > 253402300799)))) = some (r1, r2, r3, r4, r5) := h
 clear h
 have HC2 := Aside0.mk H
 clear H
 go_enter Tryz.func111, Tryz.ntmps111
 go_upto_region 1 with (fail)
 go_cut [13] (fun v13 wc => ∃ (kq : Nat) (x13_1 : Bool), v13 = .bool x13_1 ∧ Aside0 (date_Split.j0 kq a0 x13_1 = some (r1, r2, r3, r4, r5)) ∧ Aside0 (kq ≤ k) ∧ Drawn0 w wc)
 case first =>
  have H := HC2.out
  clear HC2
  by_cases c3 : a0 < 0
  ·
   rw [if_pos c3] at H
   have c3b0 : decide (a0 < 0) = true := decide_eq_true c3
   clear c3
   (first | rw [c3b0] | (simp only [i64_w, i32_w]; rw [c3b0]) | skip)
   have H' := Aside0.mk H
   clear H
   go_wp2
   go_meet
   case rel => exact ⟨_, (true), E3_, H', ⟨by first | omega | exact Nat.le_refl _⟩, D1_⟩
  ·
   rw [if_neg c3] at H
   have c3b0 : decide (a0 < 0) = false := decide_eq_false c3
   clear c3
   (first | rw [c3b0] | (simp only [i64_w, i32_w]; rw [c3b0]) | skip)
   have H' := Aside0.mk H
   clear H
   go_wp2
   go_meet
   case rel => exact ⟨_, (decide (a0 > 253402300799)), E3_, H', ⟨by first | omega | exact Nat.le_refl _⟩, D1_⟩
 case rest =>
  clear HC2
  (try clear c3); (try clear c3b0)
  obtain ⟨kq, x13_1, rfl, HA, HJ1, ⟨mc1, rfl⟩⟩ := hcut
  cases kq with
  | zero => exact absurd HA.out (by simp [date_Split.j0])
  | succ kj1 =>
   have H := HA.out
   clear HA
   simp only [date_Split.j0] at H
   by_cases c4 : x13_1 = true
   ·
    subst c4
    rw [if_pos rfl] at H
    simp only [Option.some.injEq, Prod.mk.injEq] at H
    obtain ⟨rfl, rfl, rfl, rfl, rfl⟩ := H
    go_wp2
    refine bodyPost_ret (results_list (rs := [.tmp 2, .tmp 3, .tmp 4, .tmp 5, .tmp 6]) rfl (by simp) (.tmp (.tmp (.tmp (.tmp (.tmp .nil)))))) rfl ?_
    exact ⟨E2_, D1_⟩
   ·
    replace c4 := Bool.eq_false_iff.mpr c4
    subst c4
    rw [if_neg (show ¬ (false = true) by decide)] at H
    have H' := Aside0.mk H
    clear H
    go_wp2
    go_loopg [2] kj1 (fun kq v2 w' => ∃ (x2_2 : Int), v2 = .int .i64 x2_2 ∧ Aside0 (date_Split.l0 kq a0 x2_2 (wrap64 (Int.tdiv a0 86400)) = some (r1, r2, r3, r4, r5)) ∧ Aside0 (kq ≤ kj1) ∧ Drawn0 w w')
    case atStart => exact ⟨(wrap64 (1970 + (wrap64 (Int.tdiv (wrap64 (Int.tdiv a0 86400)) 366)))), E3_, H', ⟨Nat.le_refl _⟩, D1_⟩
    case round =>
     clear H'
     (try clear c3); (try clear c3b0); (try clear c4)
     obtain ⟨x2_2, rfl, HA, HK2, ⟨m2, rfl⟩⟩ := hrel
     cases gk with
     | zero => exact absurd HA.out (by simp [date_Split.l0])
     | succ k2 =>
      have H := HA.out
      clear HA
      simp only [date_Split.l0] at H
      obtain ⟨t175, A5, H⟩ := bS_ H
      try dsimp only at H
      by_cases c6 : t175 ≤ (wrap64 (Int.tdiv a0 86400))
      ·
       rw [if_pos c6] at H
       have c6b0 : decide (t175 ≤ (wrap64 (Int.tdiv a0 86400))) = true := decide_eq_true c6
       clear c6
       have H' := Aside0.mk H
       clear H
       go_wp2_with (first | ((with_reducible refine gate_callee (f := 85) rfl ?_); refine goesL_ (some 21) rfl rfl Tryz.func85 (by kernel_rfl) rfl #[.int .i64 (wrap64 (x2_2 + 1))] rfl T1_ ?_; (with_reducible refine (date_before.calls (wrap64 (x2_2 + 1)) t175 _ A5.out).mono ?_); rintro e w' ⟨rfl, ⟨nd, rfl⟩⟩; refine ⟨_, rfl, ?_⟩))
       go_roundg k2
       case measure => have := HJ1.out; have := HK2.out; omega
       case rel => exact ⟨(wrap64 (x2_2 + 1)), E3_, H', ⟨by have := HJ1.out; have := HK2.out; omega⟩, D1_⟩
      ·
       rw [if_neg c6] at H
       have c6b0 : decide (t175 ≤ (wrap64 (Int.tdiv a0 86400))) = false := decide_eq_false c6
       clear c6
       obtain ⟨t176, A7, H⟩ := bS_ H
       try dsimp only at H
       have H' := Aside0.mk H
       clear H
       go_wp2_with (first | ((with_reducible refine gate_callee (f := 85) rfl ?_); refine goesL_ (some 21) rfl rfl Tryz.func85 (by kernel_rfl) rfl #[.int .i64 (wrap64 (x2_2 + 1))] rfl T1_ ?_; (with_reducible refine (date_before.calls (wrap64 (x2_2 + 1)) t175 _ A5.out).mono ?_); rintro e w' ⟨rfl, ⟨nd, rfl⟩⟩; refine ⟨_, rfl, ?_⟩) | ((with_reducible refine gate_callee (f := 85) rfl ?_); refine goesL_ (some 28) rfl rfl Tryz.func85 (by kernel_rfl) rfl #[.int .i64 x2_2] rfl T1_ ?_; (with_reducible refine (date_before.calls x2_2 t176 _ A7.out).mono ?_); rintro e w' ⟨rfl, ⟨nd, rfl⟩⟩; refine ⟨_, rfl, ?_⟩))
       go_loopg [3, 7] k2 (fun kq v3 v7 w' => ∃ (x3_3 : Int) (x7_3 : Int), v3 = .int .i64 x3_3 ∧ v7 = .int .i64 x7_3 ∧ Aside0 (date_Split.l1 kq a0 x2_2 x3_3 x7_3 = some (r1, r2, r3, r4, r5)) ∧ Aside0 (kq ≤ k2) ∧ Drawn0 w w')
       case atStart => exact ⟨(1), (wrap64 ((wrap64 (Int.tdiv a0 86400)) - t176)), E3_, E3_, H', ⟨Nat.le_refl _⟩, D1_⟩
       case round =>
        clear H'
        (try clear c3); (try clear c3b0); (try clear c4); (try clear c6); (try clear c6b0)
        obtain ⟨x3_3, x7_3, rfl, rfl, HA, HK3, ⟨m3, rfl⟩⟩ := hrel
        cases gk with
        | zero => exact absurd HA.out (by simp [date_Split.l1])
        | succ k3 =>
         have H := HA.out
         clear HA
         simp only [date_Split.l1] at H
         obtain ⟨t177, A8, H⟩ := bS_ H
         try dsimp only at H
         by_cases c9 : x7_3 ≥ t177
         ·
          rw [if_pos c9] at H
          have c9b0 : decide (t177 ≤ x7_3) = true := decide_eq_true c9
          clear c9
          obtain ⟨t178, A10, H⟩ := bS_ H
          try dsimp only at H
          have H' := Aside0.mk H
          clear H
          go_wp2_with (first | ((with_reducible refine gate_callee (f := 84) rfl ?_); refine goesL_ (some 33) rfl rfl Tryz.func84 (by kernel_rfl) rfl #[.int .i64 x2_2, .int .i64 x3_3] rfl T1_ ?_; (with_reducible refine (date_Days.calls k3 x2_2 x3_3 t177 _ A8.out).mono ?_); rintro e w' ⟨rfl, ⟨nd, rfl⟩⟩; refine ⟨_, rfl, ?_⟩) | ((with_reducible refine gate_callee (f := 84) rfl ?_); refine goesL_ (some 38) rfl rfl Tryz.func84 (by kernel_rfl) rfl #[.int .i64 x2_2, .int .i64 x3_3] rfl T1_ ?_; (with_reducible refine (date_Days.calls k3 x2_2 x3_3 t178 _ A10.out).mono ?_); rintro e w' ⟨rfl, ⟨nd, rfl⟩⟩; refine ⟨_, rfl, ?_⟩))
          go_roundg k3
          case measure => have := HJ1.out; have := HK2.out; have := HK3.out; omega
          case rel => exact ⟨(wrap64 (x3_3 + 1)), (wrap64 (x7_3 - t178)), E3_, E3_, H', ⟨by have := HJ1.out; have := HK2.out; have := HK3.out; omega⟩, D1_⟩
         ·
          rw [if_neg c9] at H
          have c9b0 : decide (t177 ≤ x7_3) = false := decide_eq_false c9
          clear c9
          simp only [Option.some.injEq, Prod.mk.injEq] at H
          obtain ⟨rfl, rfl, rfl, rfl, rfl⟩ := H
          go_wp2_with (first | ((with_reducible refine gate_callee (f := 84) rfl ?_); refine goesL_ (some 33) rfl rfl Tryz.func84 (by kernel_rfl) rfl #[.int .i64 x2_2, .int .i64 x3_3] rfl T1_ ?_; (with_reducible refine (date_Days.calls k3 x2_2 x3_3 t177 _ A8.out).mono ?_); rintro e w' ⟨rfl, ⟨nd, rfl⟩⟩; refine ⟨_, rfl, ?_⟩))
          refine bodyPost_ret (results_list (rs := [.tmp 2, .tmp 3, .tmp 4, .tmp 5, .tmp 6]) rfl (by simp) (.tmp (.tmp (.tmp (.tmp (.tmp .nil)))))) rfl ?_
          exact ⟨E2_, D1_⟩

-- NOT PRINTED: function 119 (abi_NoEscape)

end Go.Proofs.YtgpekljckdgggaaGreatDoor.PAll
