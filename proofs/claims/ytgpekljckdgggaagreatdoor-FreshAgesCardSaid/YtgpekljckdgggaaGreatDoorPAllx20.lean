import Derived.Test.YtgpekljckdgggaaGreatDoorPAllx0
import Derived.Test.YtgpekljckdgggaaGreatDoorPAllx9
import Derived.Test.YtgpekljckdgggaaGreatDoorPAllx11
import Derived.Test.YtgpekljckdgggaaGreatDoorPAllx12
import Derived.Test.YtgpekljckdgggaaGreatDoorPAllx13
import Derived.Test.YtgpekljckdgggaaGreatDoorPAllx15
import Derived.Test.YtgpekljckdgggaaGreatDoorPAllx18
import Derived.Test.YtgpekljckdgggaaGreatDoorPAllx19
namespace Go.Proofs.YtgpekljckdgggaaGreatDoor.PAll
open Go.RowKit Go.Proofs.YtgpekljckdgggaaGreatDoorW.PrintWords Go.Proofs.YtgpekljckdgggaaGreatDoorW.PrintLast Go.Proofs.YtgpekljckdgggaaGreatDoorW.PrintMore
attribute [local go_sem] max2_int min2_int max_two min_two max_three min_three max_four min_four   -- for this text's walks alone
set_option linter.unusedVariables false
set_option linter.unusedSimpArgs false

/-! ### pantryref12_Age: function 20 -/
mutual
def pantryref12_Age.j0 : Nat → List (S70) → Int → Int → Int → Bool → Option (Int)
 | 0, _, _, _, _, _ => none
 | k + 1, x0, x1, x2, x3, x37 => if x37 = true then (some 0) else ((pantryref12_Dated.f k x0 (⟨#[100, 97, 116, 101]⟩ : ByteArray)).bind fun bt399 => (if bt399.2 = true then (pantryref12_Age.j1 k x0 x1 x2 x3 0 bt399.1 (decide (bt399.1 < x2))) else (pantryref12_Age.j1 k x0 x1 x2 x3 0 bt399.1 false)))
def pantryref12_Age.j1 : Nat → List (S70) → Int → Int → Int → Int → Int → Bool → Option (Int)
 | 0, _, _, _, _, _, _, _ => none
 | k + 1, x0, x1, x2, x3, x9, x10, x48 => if x48 = true then (pantryref12_Age.j2 k x0 x1 x2 x3 (wrap64 (x2 - x10))) else (pantryref12_Age.j2 k x0 x1 x2 x3 x9)
def pantryref12_Age.j2 : Nat → List (S70) → Int → Int → Int → Int → Option (Int)
 | 0, _, _, _, _, _ => none
 | k + 1, x0, x1, x2, x3, x9 => (pantryref03_Get.f k x0 (⟨#[97, 103, 101]⟩ : ByteArray)).bind fun bt401 => ((pantryref01_Number.f k bt401.1).bind fun bt403 => (if x2 > x1 then (pantryref12_Age.j3 k x2 x3 x9 (wrap64 (bt403.1 + (wrap64 (x2 - x1))))) else (pantryref12_Age.j3 k x2 x3 x9 bt403.1)))
def pantryref12_Age.j3 : Nat → Int → Int → Int → Int → Option (Int)
 | 0, _, _, _, _ => none
 | k + 1, x2, x3, x9, x14 => if x14 > x9 then (if x3 > x2 then (some (wrap64 (x14 + (wrap64 (x3 - x2))))) else (some x14)) else (if x3 > x2 then (some (wrap64 (x9 + (wrap64 (x3 - x2))))) else (some x9))
end
def pantryref12_Age.f (k : Nat) (l0 : List (S70)) (a1 : Int) (a2 : Int) (a3 : Int) : Option (Int) := if a1 < 0 then (pantryref12_Age.j0 k l0 a1 a2 a3 true) else (if a2 < 0 then (pantryref12_Age.j0 k l0 a1 a2 a3 true) else (if a3 < 0 then (pantryref12_Age.j0 k l0 a1 a2 a3 true) else (if a1 > 253402300799 then (pantryref12_Age.j0 k l0 a1 a2 a3 true) else (if a2 > 253402300799 then (pantryref12_Age.j0 k l0 a1 a2 a3 true) else (pantryref12_Age.j0 k l0 a1 a2 a3 (decide (a3 > 253402300799)))))))
theorem pantryref12_Age.mono_l : ∀ k, (∀ y0 y1 y2 y3 y4, LeO (pantryref12_Age.j0 k y0 y1 y2 y3 y4) (pantryref12_Age.j0 (k + 1) y0 y1 y2 y3 y4)) ∧ (∀ y0 y1 y2 y3 y4 y5 y6, LeO (pantryref12_Age.j1 k y0 y1 y2 y3 y4 y5 y6) (pantryref12_Age.j1 (k + 1) y0 y1 y2 y3 y4 y5 y6)) ∧ (∀ y0 y1 y2 y3 y4, LeO (pantryref12_Age.j2 k y0 y1 y2 y3 y4) (pantryref12_Age.j2 (k + 1) y0 y1 y2 y3 y4)) ∧ (∀ y0 y1 y2 y3, LeO (pantryref12_Age.j3 k y0 y1 y2 y3) (pantryref12_Age.j3 (k + 1) y0 y1 y2 y3))
 | 0 => ⟨fun _ _ _ _ _ r h => by simp [pantryref12_Age.j0] at h, fun _ _ _ _ _ _ _ r h => by simp [pantryref12_Age.j1] at h, fun _ _ _ _ _ r h => by simp [pantryref12_Age.j2] at h, fun _ _ _ _ r h => by simp [pantryref12_Age.j3] at h⟩
 | k + 1 => by
  obtain ⟨ih0, ih1, ih2, ih3⟩ := pantryref12_Age.mono_l k
  refine ⟨?_, ?_, ?_, ?_⟩
  ·
   intro y0 y1 y2 y3 y4
   unfold pantryref12_Age.j0
   repeat' (with_reducible first | exact ih0 _ _ _ _ _ | exact ih1 _ _ _ _ _ _ _ | exact ih2 _ _ _ _ _ | exact ih3 _ _ _ _ | exact pantryref01_Number.mono _ _ | exact pantryref03_Get.mono _ _ _ | exact pantryref12_Dated.mono _ _ _ | exact lR_ | refine LeO.ite ?_ ?_ | refine LeO.bind ?_ (fun _ => ?_))
  ·
   intro y0 y1 y2 y3 y4 y5 y6
   unfold pantryref12_Age.j1
   repeat' (with_reducible first | exact ih0 _ _ _ _ _ | exact ih1 _ _ _ _ _ _ _ | exact ih2 _ _ _ _ _ | exact ih3 _ _ _ _ | exact pantryref01_Number.mono _ _ | exact pantryref03_Get.mono _ _ _ | exact pantryref12_Dated.mono _ _ _ | exact lR_ | refine LeO.ite ?_ ?_ | refine LeO.bind ?_ (fun _ => ?_))
  ·
   intro y0 y1 y2 y3 y4
   unfold pantryref12_Age.j2
   repeat' (with_reducible first | exact ih0 _ _ _ _ _ | exact ih1 _ _ _ _ _ _ _ | exact ih2 _ _ _ _ _ | exact ih3 _ _ _ _ | exact pantryref01_Number.mono _ _ | exact pantryref03_Get.mono _ _ _ | exact pantryref12_Dated.mono _ _ _ | exact lR_ | refine LeO.ite ?_ ?_ | refine LeO.bind ?_ (fun _ => ?_))
  ·
   intro y0 y1 y2 y3
   unfold pantryref12_Age.j3
   repeat' (with_reducible first | exact ih0 _ _ _ _ _ | exact ih1 _ _ _ _ _ _ _ | exact ih2 _ _ _ _ _ | exact ih3 _ _ _ _ | exact pantryref01_Number.mono _ _ | exact pantryref03_Get.mono _ _ _ | exact pantryref12_Dated.mono _ _ _ | exact lR_ | refine LeO.ite ?_ ?_ | refine LeO.bind ?_ (fun _ => ?_))
theorem pantryref12_Age.mono : ∀ a0 a1 a2 a3 k, LeO (pantryref12_Age.f k a0 a1 a2 a3) (pantryref12_Age.f (k + 1) a0 a1 a2 a3) := by
 intro a0 a1 a2 a3 k
 obtain ⟨ih0, ih1, ih2, ih3⟩ := pantryref12_Age.mono_l k
 unfold pantryref12_Age.f
 repeat' (with_reducible first | exact ih0 _ _ _ _ _ | exact ih1 _ _ _ _ _ _ _ | exact ih2 _ _ _ _ _ | exact ih3 _ _ _ _ | exact pantryref01_Number.mono _ _ | exact pantryref03_Get.mono _ _ _ | exact pantryref12_Dated.mono _ _ _ | exact lR_ | refine LeO.ite ?_ ?_ | refine LeO.bind ?_ (fun _ => ?_))
set_option maxHeartbeats 8000000 in
set_option maxRecDepth 100000 in
theorem pantryref12_Age.calls (k : Nat) (A0 : Option Addr) (c0 : Nat) (l0 : List (S70)) (a1 : Int) (a2 : Int) (a3 : Int) (r : Int) (w : World) (hr0 : Kd.C k70 w A0 l0.length l0) (hc0 : l0.length ≤ c0) (h : pantryref12_Age.f k l0 a1 a2 a3 = some r) :
  Calls Tryz.prog 20 #[.slice A0 l0.length c0, .int .i64 a1, .int .i64 a2, .int .i64 a3] w fun e w' => e = .returned (.int .i64 r) ∧ Below w.heap.size w w' := by
 have HR0 := Aside0.mk hr0
 have HC0 := Aside0.mk hc0
 clear hr0 hc0
 have HB := Aside0.mk (Below.refl w.heap.size w)
 have H : (if a1 < 0 then (pantryref12_Age.j0 k l0 a1 a2 a3 true) else (if a2 < 0 then (pantryref12_Age.j0 k l0 a1 a2 a3 true) else (if a3 < 0 then (pantryref12_Age.j0 k l0 a1 a2 a3 true) else (if a1 > 253402300799 then (pantryref12_Age.j0 k l0 a1 a2 a3 true) else (if a2 > 253402300799 then (pantryref12_Age.j0 k l0 a1 a2 a3 true) else (pantryref12_Age.j0 k l0 a1 a2 a3 (decide (a3 > 253402300799)))))))) = some r := h
 clear h
 have HC5 := Aside0.mk H
 clear H
 go_enter Tryz.func20, Tryz.ntmps20
 go_upto_region 1 with (fail)
 go_cut [37] (fun v37 wc => ∃ (kq : Nat) (x37_4 : Bool), v37 = .bool x37_4 ∧ Aside0 (pantryref12_Age.j0 kq l0 a1 a2 a3 x37_4 = some r) ∧ Aside0 (kq ≤ k) ∧ Aside0 (Below w.heap.size w wc))
 case first =>
  have H := HC5.out
  clear HC5
  by_cases c6 : a1 < 0
  ·
   rw [if_pos c6] at H
   have c6b0 : decide (a1 < 0) = true := decide_eq_true c6
   clear c6
   (first | rw [c6b0] | (simp only [i64_w, i32_w]; rw [c6b0]) | skip)
   have H' := Aside0.mk H
   clear H
   go_wp2
   go_meet
   case rel => exact ⟨_, (true), E3_, H', ⟨by first | omega | exact Nat.le_refl _⟩, ⟨W1_⟩⟩
  ·
   rw [if_neg c6] at H
   have c6b0 : decide (a1 < 0) = false := decide_eq_false c6
   clear c6
   (first | rw [c6b0] | (simp only [i64_w, i32_w]; rw [c6b0]) | skip)
   by_cases c7 : a2 < 0
   ·
    rw [if_pos c7] at H
    have c7b0 : decide (a2 < 0) = true := decide_eq_true c7
    clear c7
    have H' := Aside0.mk H
    clear H
    go_wp2
    go_meet
    case rel => exact ⟨_, (true), E3_, H', ⟨by first | omega | exact Nat.le_refl _⟩, ⟨W1_⟩⟩
   ·
    rw [if_neg c7] at H
    have c7b0 : decide (a2 < 0) = false := decide_eq_false c7
    clear c7
    by_cases c8 : a3 < 0
    ·
     rw [if_pos c8] at H
     have c8b0 : decide (a3 < 0) = true := decide_eq_true c8
     clear c8
     have H' := Aside0.mk H
     clear H
     go_wp2
     go_meet
     case rel => exact ⟨_, (true), E3_, H', ⟨by first | omega | exact Nat.le_refl _⟩, ⟨W1_⟩⟩
    ·
     rw [if_neg c8] at H
     have c8b0 : decide (a3 < 0) = false := decide_eq_false c8
     clear c8
     by_cases c9 : a1 > 253402300799
     ·
      rw [if_pos c9] at H
      have c9b0 : decide (253402300799 < a1) = true := decide_eq_true c9
      clear c9
      have H' := Aside0.mk H
      clear H
      go_wp2
      go_meet
      case rel => exact ⟨_, (true), E3_, H', ⟨by first | omega | exact Nat.le_refl _⟩, ⟨W1_⟩⟩
     ·
      rw [if_neg c9] at H
      have c9b0 : decide (253402300799 < a1) = false := decide_eq_false c9
      clear c9
      by_cases c10 : a2 > 253402300799
      ·
       rw [if_pos c10] at H
       have c10b0 : decide (253402300799 < a2) = true := decide_eq_true c10
       clear c10
       have H' := Aside0.mk H
       clear H
       go_wp2
       go_meet
       case rel => exact ⟨_, (true), E3_, H', ⟨by first | omega | exact Nat.le_refl _⟩, ⟨W1_⟩⟩
      ·
       rw [if_neg c10] at H
       have c10b0 : decide (253402300799 < a2) = false := decide_eq_false c10
       clear c10
       have H' := Aside0.mk H
       clear H
       go_wp2
       go_meet
       case rel => exact ⟨_, (decide (a3 > 253402300799)), E3_, H', ⟨by first | omega | exact Nat.le_refl _⟩, ⟨W1_⟩⟩
 case rest =>
  clear HC5
  (try clear c6); (try clear c6b0); (try clear c7); (try clear c7b0); (try clear c8); (try clear c8b0); (try clear c9); (try clear c9b0); (try clear c10); (try clear c10b0)
  obtain ⟨kq, x37_4, rfl, HA, HJ4, HB⟩ := hcut
  cases kq with
  | zero => exact absurd HA.out (by simp [pantryref12_Age.j0])
  | succ kj4 =>
   have H := HA.out
   clear HA
   simp only [pantryref12_Age.j0] at H
   by_cases c11 : x37_4 = true
   ·
    subst c11
    rw [if_pos rfl] at H
    obtain rfl := Option.some.inj H
    go_wp2
    go_ret
    exact ⟨E1_, W1_⟩
   ·
    replace c11 := Bool.eq_false_iff.mpr c11
    subst c11
    rw [if_neg (show ¬ (false = true) by decide)] at H
    obtain ⟨⟨t399, t400⟩, A12, H⟩ := bS_ H
    try dsimp only at H
    have HC13 := Aside0.mk H
    clear H
    go_upto_region 5 with (first | ((with_reducible refine gate_callee (f := 39) rfl ?_); refine goesL_ (some 40) rfl rfl Tryz.func39 (by kernel_rfl) rfl #[.slice A0 l0.length c0, .string (⟨#[100, 97, 116, 101]⟩ : ByteArray)] rfl T1_ ?_; (with_reducible refine (pantryref12_Dated.calls kj4 _ _ l0 (⟨#[100, 97, 116, 101]⟩ : ByteArray) t399 t400 _ ?side1 ?side2 A12.out).mono ?_); (case side1 => exact C1_ ((Kd.C_below HR0.out HB.out))); (case side2 => exact HC0.out); rintro e w14 ⟨rfl, hb⟩; refine ⟨_, rfl, ?_⟩; replace HB := y1_ hb; (try clear hb)))
    (try simp only [Act.put, sA_, sZ_, sS_])
    go_cut [48] (fun v48 wc => ∃ (kq : Nat) (x48_12 : Bool), v48 = .bool x48_12 ∧ Aside0 (pantryref12_Age.j1 kq l0 a1 a2 a3 0 t399 x48_12 = some r) ∧ Aside0 (kq ≤ kj4) ∧ Aside0 (Below w.heap.size w wc))
    case first =>
     have H := HC13.out
     clear HC13
     by_cases c15 : t400 = true
     ·
      subst c15
      rw [if_pos rfl] at H
      have H' := Aside0.mk H
      clear H
      go_wp2
      go_meet
      case rel => exact ⟨_, (decide (t399 < a2)), E3_, H', ⟨by have := HJ4.out; first | omega | exact Nat.le_refl _⟩, ⟨W1_⟩⟩
     ·
      replace c15 := Bool.eq_false_iff.mpr c15
      subst c15
      rw [if_neg (show ¬ (false = true) by decide)] at H
      have H' := Aside0.mk H
      clear H
      go_wp2
      go_meet
      case rel => exact ⟨_, (false), E3_, H', ⟨by have := HJ4.out; first | omega | exact Nat.le_refl _⟩, ⟨W1_⟩⟩
    case rest =>
     clear HC13
     (try clear c6); (try clear c6b0); (try clear c7); (try clear c7b0); (try clear c8); (try clear c8b0); (try clear c9); (try clear c9b0); (try clear c10); (try clear c10b0); (try clear c11); (try clear c15)
     obtain ⟨kq, x48_12, rfl, HA, HJ12, HB⟩ := hcut
     cases kq with
     | zero => exact absurd HA.out (by simp [pantryref12_Age.j1])
     | succ kj12 =>
      have H := HA.out
      clear HA
      simp only [pantryref12_Age.j1] at H
      have HC16 := Aside0.mk H
      clear H
      go_upto_if 48 with (fail)
      go_cut [9] (fun v9 wc => ∃ (kq : Nat) (x9_15 : Int), v9 = .int .i64 x9_15 ∧ Aside0 (pantryref12_Age.j2 kq l0 a1 a2 a3 x9_15 = some r) ∧ Aside0 (kq ≤ kj12) ∧ Aside0 (Below w.heap.size w wc))
      case first =>
       have H := HC16.out
       clear HC16
       by_cases c17 : x48_12 = true
       ·
        subst c17
        rw [if_pos rfl] at H
        have H' := Aside0.mk H
        clear H
        go_wp2
        go_meet
        case rel => exact ⟨_, (wrap64 (a2 - t399)), E3_, H', ⟨by have := HJ4.out; have := HJ12.out; first | omega | exact Nat.le_refl _⟩, ⟨W1_⟩⟩
       ·
        replace c17 := Bool.eq_false_iff.mpr c17
        subst c17
        rw [if_neg (show ¬ (false = true) by decide)] at H
        have H' := Aside0.mk H
        clear H
        go_wp2
        go_meet
        case rel => exact ⟨_, (0), E3_, H', ⟨by have := HJ4.out; have := HJ12.out; first | omega | exact Nat.le_refl _⟩, ⟨W1_⟩⟩
      case rest =>
       clear HC16
       (try clear c6); (try clear c6b0); (try clear c7); (try clear c7b0); (try clear c8); (try clear c8b0); (try clear c9); (try clear c9b0); (try clear c10); (try clear c10b0); (try clear c11); (try clear c15); (try clear c17)
       obtain ⟨kq, x9_15, rfl, HA, HJ15, HB⟩ := hcut
       cases kq with
       | zero => exact absurd HA.out (by simp [pantryref12_Age.j2])
       | succ kj15 =>
        have H := HA.out
        clear HA
        simp only [pantryref12_Age.j2] at H
        obtain ⟨⟨t401, t402⟩, A18, H⟩ := bS_ H
        try dsimp only at H
        obtain ⟨⟨t403, t404⟩, A19, H⟩ := bS_ H
        try dsimp only at H
        have HC20 := Aside0.mk H
        clear H
        go_upto_if 64 with (first | ((with_reducible refine gate_callee (f := 32) rfl ?_); refine goesL_ (some 54) rfl rfl Tryz.func32 (by kernel_rfl) rfl #[.slice A0 l0.length c0, .string (⟨#[97, 103, 101]⟩ : ByteArray)] rfl T1_ ?_; (with_reducible refine (pantryref03_Get.calls kj15 _ _ l0 (⟨#[97, 103, 101]⟩ : ByteArray) t401 t402 _ ?side1 ?side2 A18.out).mono ?_); (case side1 => exact C1_ ((Kd.C_below HR0.out HB.out))); (case side2 => exact HC0.out); rintro e w21 ⟨rfl, hb⟩; refine ⟨_, rfl, ?_⟩; replace HB := y1_ hb; (try clear hb)) | ((with_reducible refine gate_callee (f := 40) rfl ?_); refine goesL_ (some 59) rfl rfl Tryz.func40 (by kernel_rfl) rfl #[.string t401] rfl T1_ ?_; (with_reducible refine (pantryref01_Number.calls kj15 t401 t403 t404 _ A19.out).mono ?_); rintro e w' ⟨rfl, ⟨nd, rfl⟩⟩; refine ⟨_, rfl, ?_⟩))
        (try simp only [Act.put, sA_, sZ_, sS_])
        go_cut [14] (fun v14 wc => ∃ (kq : Nat) (x14_19 : Int), v14 = .int .i64 x14_19 ∧ Aside0 (pantryref12_Age.j3 kq a2 a3 x9_15 x14_19 = some r) ∧ Aside0 (kq ≤ kj15) ∧ Aside0 (Below w.heap.size w wc))
        case first =>
         have H := HC20.out
         clear HC20
         by_cases c22 : a2 > a1
         ·
          rw [if_pos c22] at H
          have c22b0 : decide (a1 < a2) = true := decide_eq_true c22
          clear c22
          (first | rw [c22b0] | (simp only [i64_w, i32_w]; rw [c22b0]) | skip)
          have H' := Aside0.mk H
          clear H
          go_wp2
          go_meet
          case rel => exact ⟨_, (wrap64 (t403 + (wrap64 (a2 - a1)))), E3_, H', ⟨by have := HJ4.out; have := HJ12.out; have := HJ15.out; first | omega | exact Nat.le_refl _⟩, ⟨W1_⟩⟩
         ·
          rw [if_neg c22] at H
          have c22b0 : decide (a1 < a2) = false := decide_eq_false c22
          clear c22
          (first | rw [c22b0] | (simp only [i64_w, i32_w]; rw [c22b0]) | skip)
          have H' := Aside0.mk H
          clear H
          go_wp2
          go_meet
          case rel => exact ⟨_, (t403), E3_, H', ⟨by have := HJ4.out; have := HJ12.out; have := HJ15.out; first | omega | exact Nat.le_refl _⟩, ⟨W1_⟩⟩
        case rest =>
         clear HC20
         (try clear c6); (try clear c6b0); (try clear c7); (try clear c7b0); (try clear c8); (try clear c8b0); (try clear c9); (try clear c9b0); (try clear c10); (try clear c10b0); (try clear c11); (try clear c15); (try clear c17); (try clear c22); (try clear c22b0)
         obtain ⟨kq, x14_19, rfl, HA, HJ19, HB⟩ := hcut
         cases kq with
         | zero => exact absurd HA.out (by simp [pantryref12_Age.j3])
         | succ kj19 =>
          have H := HA.out
          clear HA
          simp only [pantryref12_Age.j3] at H
          by_cases c23 : x14_19 > x9_15
          ·
           rw [if_pos c23] at H
           have c23b0 : decide (x9_15 < x14_19) = true := decide_eq_true c23
           clear c23
           by_cases c24 : a3 > a2
           ·
            rw [if_pos c24] at H
            have c24b0 : decide (a2 < a3) = true := decide_eq_true c24
            clear c24
            obtain rfl := Option.some.inj H
            go_wp2
            go_ret
            exact ⟨E1_, W1_⟩
           ·
            rw [if_neg c24] at H
            have c24b0 : decide (a2 < a3) = false := decide_eq_false c24
            clear c24
            obtain rfl := Option.some.inj H
            go_wp2
            go_ret
            exact ⟨E1_, W1_⟩
          ·
           rw [if_neg c23] at H
           have c23b0 : decide (x9_15 < x14_19) = false := decide_eq_false c23
           clear c23
           by_cases c25 : a3 > a2
           ·
            rw [if_pos c25] at H
            have c25b0 : decide (a2 < a3) = true := decide_eq_true c25
            clear c25
            obtain rfl := Option.some.inj H
            go_wp2
            go_ret
            exact ⟨E1_, W1_⟩
           ·
            rw [if_neg c25] at H
            have c25b0 : decide (a2 < a3) = false := decide_eq_false c25
            clear c25
            obtain rfl := Option.some.inj H
            go_wp2
            go_ret
            exact ⟨E1_, W1_⟩

/-! ### pantrylaw12_FreshAges: function 4 -/
def pantrylaw12_FreshAges.j0 : Nat → List (S46) → Int → Int → Int → Bool → ByteArray → Int → Int → Int → Bool → Bool → List ByteArray → Option (Bool)
 | 0, _, _, _, _, _, _, _, _, _, _, _, _ => none
 | k + 1, x1, x2, x3, x4, x22, x406000, x406001, x406002, x406003, x406004, x406005, x406006 => if x22 = true then (some true) else ((pantrymade_Fields.f k x1).bind fun t409 => ((fresh_Life.f k x406000 x406001 x406002 x406003 x406004 x406005 x406006 x1 x3).bind fun t412 => ((pantrymade_Site.f x406000 x406001 x406002 x406003 x406004 x406005 x406006).bind fun bt413 => ((pantryref12_Life.f k bt413.1 bt413.2.1 bt413.2.2.1 bt413.2.2.2.1 bt413.2.2.2.2.1 bt413.2.2.2.2.2.1 bt413.2.2.2.2.2.2 t409 x3).bind fun t422 => (if t412 = t422 then ((fresh_Age.f k x1 x2 x3 x4).bind fun t423 => ((pantryref12_Age.f k t409 x2 x3 x4).bind fun t424 => (if t423 = t424 then (if x3 < 0 then (some true) else (if x3 > 253402300799 then (some true) else (if x406002 > x406003 then (some true) else (if t412 ≥ x406002 then (some (decide (t412 ≤ x406003))) else (none))))) else (none)))) else (none))))))
def pantrylaw12_FreshAges.f (k : Nat) (a0_0 : ByteArray) (a0_1 : Int) (a0_2 : Int) (a0_3 : Int) (a0_4 : Bool) (a0_5 : Bool) (l0_6 : List ByteArray) (l1 : List (S46)) (a2 : Int) (a3 : Int) (a4 : Int) : Option (Bool) := (pantrylaw12_anchor.f k).bind fun t406 => (if t406 = true then ((pantrylaw12_fit.f k a0_0 a0_1 a0_2 a0_3 a0_4 a0_5 l0_6).bind fun t407 => (if t407 = true then ((pantrylaw12_small.f k l1).bind fun t408 => (pantrylaw12_FreshAges.j0 k l1 a2 a3 a4 (!t408) a0_0 a0_1 a0_2 a0_3 a0_4 a0_5 l0_6)) else (pantrylaw12_FreshAges.j0 k l1 a2 a3 a4 true a0_0 a0_1 a0_2 a0_3 a0_4 a0_5 l0_6))) else (none))
theorem pantrylaw12_FreshAges.mono_l : ∀ k, (∀ y0 y1 y2 y3 y4 y5 y6 y7 y8 y9 y10 y11, LeO (pantrylaw12_FreshAges.j0 k y0 y1 y2 y3 y4 y5 y6 y7 y8 y9 y10 y11) (pantrylaw12_FreshAges.j0 (k + 1) y0 y1 y2 y3 y4 y5 y6 y7 y8 y9 y10 y11))
 | 0 => fun _ _ _ _ _ _ _ _ _ _ _ _ r h => by simp [pantrylaw12_FreshAges.j0] at h
 | k + 1 => by
  have ih0 := pantrylaw12_FreshAges.mono_l k
  ·
   intro y0 y1 y2 y3 y4 y5 y6 y7 y8 y9 y10 y11
   unfold pantrylaw12_FreshAges.j0
   repeat' (with_reducible first | exact ih0 _ _ _ _ _ _ _ _ _ _ _ _ | exact fresh_Age.mono _ _ _ _ _ | exact fresh_Life.mono _ _ _ _ _ _ _ _ _ _ | exact pantrylaw12_anchor.mono _ | exact pantrylaw12_fit.mono _ _ _ _ _ _ _ _ | exact pantrylaw12_small.mono _ _ | exact pantrymade_Fields.mono _ _ | exact pantryref12_Age.mono _ _ _ _ _ | exact pantryref12_Life.mono _ _ _ _ _ _ _ _ _ _ | exact lR_ | refine LeO.ite ?_ ?_ | refine LeO.bind ?_ (fun _ => ?_))
theorem pantrylaw12_FreshAges.mono : ∀ a0 a1 a2 a3 a4 a5 a6 a7 a8 a9 a10 k, LeO (pantrylaw12_FreshAges.f k a0 a1 a2 a3 a4 a5 a6 a7 a8 a9 a10) (pantrylaw12_FreshAges.f (k + 1) a0 a1 a2 a3 a4 a5 a6 a7 a8 a9 a10) := by
 intro a0 a1 a2 a3 a4 a5 a6 a7 a8 a9 a10 k
 have ih0 := pantrylaw12_FreshAges.mono_l k
 unfold pantrylaw12_FreshAges.f
 repeat' (with_reducible first | exact ih0 _ _ _ _ _ _ _ _ _ _ _ _ | exact fresh_Age.mono _ _ _ _ _ | exact fresh_Life.mono _ _ _ _ _ _ _ _ _ _ | exact pantrylaw12_anchor.mono _ | exact pantrylaw12_fit.mono _ _ _ _ _ _ _ _ | exact pantrylaw12_small.mono _ _ | exact pantrymade_Fields.mono _ _ | exact pantryref12_Age.mono _ _ _ _ _ | exact pantryref12_Life.mono _ _ _ _ _ _ _ _ _ _ | exact lR_ | refine LeO.ite ?_ ?_ | refine LeO.bind ?_ (fun _ => ?_))
set_option maxHeartbeats 8000000 in
set_option maxRecDepth 100000 in
theorem pantrylaw12_FreshAges.calls (k : Nat) (a0_0 : ByteArray) (a0_1 : Int) (a0_2 : Int) (a0_3 : Int) (a0_4 : Bool) (a0_5 : Bool) (A0_6 : Option Addr) (c0_6 : Nat) (l0_6 : List ByteArray) (A1 : Option Addr) (c1 : Nat) (l1 : List (S46)) (a2 : Int) (a3 : Int) (a4 : Int) (r : Bool) (w : World) (hr0_6 : Kd.C Kd.string w A0_6 l0_6.length l0_6) (hc0_6 : l0_6.length ≤ c0_6) (hr1 : Kd.C k46 w A1 l1.length l1) (hc1 : l1.length ≤ c1) (hrW : WF w) (h : pantrylaw12_FreshAges.f k a0_0 a0_1 a0_2 a0_3 a0_4 a0_5 l0_6 l1 a2 a3 a4 = some r) :
  Calls Tryz.prog 4 #[.agg #[.string a0_0, .int .i64 a0_1, .int .i64 a0_2, .int .i64 a0_3, .bool a0_4, .bool a0_5, .slice A0_6 l0_6.length c0_6], .slice A1 l1.length c1, .int .i64 a2, .int .i64 a3, .int .i64 a4] w fun e w' => e = .returned (.bool r) ∧ Below w.heap.size w w' := by
 have hu24 := Tryz.underlying24
 have HRW := Aside0.mk hrW
 clear hrW
 have HR0_6 := Aside0.mk hr0_6
 have HC0_6 := Aside0.mk hc0_6
 clear hr0_6 hc0_6
 have HR1 := Aside0.mk hr1
 have HC1 := Aside0.mk hc1
 clear hr1 hc1
 have HB := Aside0.mk (Below.refl w.heap.size w)
 have H : ((pantrylaw12_anchor.f k).bind fun t406 => (if t406 = true then ((pantrylaw12_fit.f k a0_0 a0_1 a0_2 a0_3 a0_4 a0_5 l0_6).bind fun t407 => (if t407 = true then ((pantrylaw12_small.f k l1).bind fun t408 => (pantrylaw12_FreshAges.j0 k l1 a2 a3 a4 (!t408) a0_0 a0_1 a0_2 a0_3 a0_4 a0_5 l0_6)) else (pantrylaw12_FreshAges.j0 k l1 a2 a3 a4 true a0_0 a0_1 a0_2 a0_3 a0_4 a0_5 l0_6))) else (none))) = some r := h
 clear h
 obtain ⟨t406, A6, H⟩ := bS_ H
 try dsimp only at H
 by_cases c7 : t406 = true
 ·
  subst c7
  rw [if_pos rfl] at H
  have HC8 := Aside0.mk H
  clear H
  go_enter Tryz.func4, Tryz.ntmps4
  go_upto_region 3 with (first | ((with_reducible refine gate_dst (N := 5) rfl ?_); refine box_event ?hg (N := 5) ?hd (cs := #[.string a0_0, .int .i64 a0_1, .int .i64 a0_2, .int .i64 a0_3, .bool a0_4, .bool a0_5, .slice A0_6 l0_6.length c0_6]) (t := 24) ?hr ?_; (case hd | hg => rfl); (case hr => exact S1_); intro gb405 hg w9 hbox hb; have BK405 := Aside0.mk (hbox); have GW405 := Aside0.mk ((Z1_ : w.heap.size ≤ gb405)); have GE405 := Aside0.mk ((Z1_ : w.heap.size ≤ gb405)); replace HB := y1_ hb; clear hb hbox hg) | ((with_reducible refine gate_callee (f := 10) rfl ?_); refine goesL_ (some 13) rfl rfl Tryz.func10 (by kernel_rfl) rfl #[] rfl T1_ ?_; (with_reducible refine (pantrylaw12_anchor.calls k  true _ ?side1 A6.out).mono ?_); (case side1 => exact C1_ ((WF.below HRW.out HB.out))); rintro e w10 ⟨rfl, hb⟩; refine ⟨_, rfl, ?_⟩; replace BK405 := yB_ BK405 hb; replace HB := y2_ hb; (try clear hb)))
  (try simp only [Act.put, sA_, sZ_, sS_])
  go_cut [22] (fun v22 wc => ∃ (kq : Nat) (x22_7 : Bool), v22 = .bool x22_7 ∧ Aside0 (pantrylaw12_FreshAges.j0 kq l1 a2 a3 a4 x22_7 a0_0 a0_1 a0_2 a0_3 a0_4 a0_5 l0_6 = some r) ∧ Aside0 (kq ≤ k) ∧ Aside0 (wc.heap[gb405]? = some (.cells #[.string a0_0, .int .i64 a0_1, .int .i64 a0_2, .int .i64 a0_3, .bool a0_4, .bool a0_5, (.slice A0_6 l0_6.length c0_6)] 24 (0, 0))) ∧ Aside0 (Below w.heap.size w wc))
  case first =>
   have H := HC8.out
   clear HC8
   obtain ⟨t407, A11, H⟩ := bS_ H
   try dsimp only at H
   by_cases c12 : t407 = true
   ·
    subst c12
    rw [if_pos rfl] at H
    obtain ⟨t408, A13, H⟩ := bS_ H
    try dsimp only at H
    have H' := Aside0.mk H
    clear H
    obtain ⟨z14_0, z14_1, z14_2, z14_3, z14_4, z14_5, z14_6, y14_0, y14_1, y14_2, y14_3, y14_4, y14_5, y14_6⟩ := cz7_ BK405.out
    go_wp2_with (first | ((with_reducible refine gate_callee (f := 11) rfl ?_); refine goesL_ (some 16) rfl rfl Tryz.func11 (by kernel_rfl) rfl #[.agg #[.string a0_0, .int .i64 a0_1, .int .i64 a0_2, .int .i64 a0_3, .bool a0_4, .bool a0_5, .slice A0_6 l0_6.length c0_6]] rfl T1_ ?_; (with_reducible refine (pantrylaw12_fit.calls k a0_0 a0_1 a0_2 a0_3 a0_4 a0_5 (fun k_ => k_ < w.heap.size) _ _ l0_6 true _ ?side1 A11.out).mono ?_); (case side1 => exact Kd.V_mk HC0_6.out (Kd.F_below (Kd.C_F Kd.heap_string HR0_6.out) W2_)); rintro e w15 ⟨rfl, hb⟩; refine ⟨_, rfl, ?_⟩; replace BK405 := yB_ BK405 hb; replace HB := y2_ hb; (try clear hb)) | (go_at_call 12; (with_reducible refine (pantrylaw12_small.calls k _ _ l1 t408 _ ?side1 ?side2 A13.out).mono ?_); (case side1 => exact C1_ ((Kd.C_below HR1.out HB.out))); (case side2 => exact HC1.out); rintro e w16 ⟨rfl, hb⟩; replace BK405 := yB_ BK405 hb; replace HB := y2_ hb; (try clear hb)))
    go_meet
    case rel => exact ⟨_, (!t408), E3_, H', ⟨by first | omega | exact Nat.le_refl _⟩, ⟨B1_ BK405.out⟩, ⟨W2_⟩⟩
   ·
    replace c12 := Bool.eq_false_iff.mpr c12
    subst c12
    rw [if_neg (show ¬ (false = true) by decide)] at H
    have H' := Aside0.mk H
    clear H
    obtain ⟨z17_0, z17_1, z17_2, z17_3, z17_4, z17_5, z17_6, y17_0, y17_1, y17_2, y17_3, y17_4, y17_5, y17_6⟩ := cz7_ BK405.out
    go_wp2_with (first | ((with_reducible refine gate_callee (f := 11) rfl ?_); refine goesL_ (some 16) rfl rfl Tryz.func11 (by kernel_rfl) rfl #[.agg #[.string a0_0, .int .i64 a0_1, .int .i64 a0_2, .int .i64 a0_3, .bool a0_4, .bool a0_5, .slice A0_6 l0_6.length c0_6]] rfl T1_ ?_; (with_reducible refine (pantrylaw12_fit.calls k a0_0 a0_1 a0_2 a0_3 a0_4 a0_5 (fun k_ => k_ < w.heap.size) _ _ l0_6 false _ ?side1 A11.out).mono ?_); (case side1 => exact Kd.V_mk HC0_6.out (Kd.F_below (Kd.C_F Kd.heap_string HR0_6.out) W2_)); rintro e w18 ⟨rfl, hb⟩; refine ⟨_, rfl, ?_⟩; replace BK405 := yB_ BK405 hb; replace HB := y2_ hb; (try clear hb)))
    go_meet
    case rel => exact ⟨_, (true), E3_, H', ⟨by first | omega | exact Nat.le_refl _⟩, ⟨B1_ BK405.out⟩, ⟨W2_⟩⟩
  case rest =>
   clear HC8
   (try clear c1); (try clear c7); (try clear c12); (try clear z14_0 z14_1 z14_2 z14_3 z14_4 z14_5 z14_6 y14_0 y14_1 y14_2 y14_3 y14_4 y14_5 y14_6); (try clear z17_0 z17_1 z17_2 z17_3 z17_4 z17_5 z17_6 y17_0 y17_1 y17_2 y17_3 y17_4 y17_5 y17_6)
   obtain ⟨kq, x22_7, rfl, HA, HJ7, BK405, HB⟩ := hcut
   cases kq with
   | zero => exact absurd HA.out (by simp [pantrylaw12_FreshAges.j0])
   | succ kj7 =>
    have H := HA.out
    clear HA
    simp only [pantrylaw12_FreshAges.j0] at H
    by_cases c19 : x22_7 = true
    ·
     subst c19
     rw [if_pos rfl] at H
     obtain rfl := Option.some.inj H
     go_wp2
     go_ret
     exact ⟨E1_, W2_⟩
    ·
     replace c19 := Bool.eq_false_iff.mpr c19
     subst c19
     rw [if_neg (show ¬ (false = true) by decide)] at H
     obtain ⟨t409, A20, H⟩ := bS_ H
     try dsimp only at H
     obtain ⟨t412, A21, H⟩ := bS_ H
     try dsimp only at H
     obtain ⟨⟨t413, t414, t415, t416, t417, t418, t419⟩, A22, H⟩ := bS_ H
     try dsimp only at H
     obtain ⟨t422, A23, H⟩ := bS_ H
     try dsimp only at H
     by_cases c24 : t412 = t422
     ·
      rw [if_pos c24] at H
      have c24b0 : (t412 == t422) = true := beq_iff_eq.mpr c24
      have c24b1 : (t412 != t422) = false := bne_eq_false_iff_eq.mpr c24
      clear c24
      obtain ⟨t423, A25, H⟩ := bS_ H
      try dsimp only at H
      obtain ⟨t424, A26, H⟩ := bS_ H
      try dsimp only at H
      by_cases c27 : t423 = t424
      ·
       rw [if_pos c27] at H
       have c27b0 : (t423 == t424) = true := beq_iff_eq.mpr c27
       have c27b1 : (t423 != t424) = false := bne_eq_false_iff_eq.mpr c27
       clear c27
       by_cases c28 : a3 < 0
       ·
        rw [if_pos c28] at H
        have c28b0 : decide (a3 < 0) = true := decide_eq_true c28
        clear c28
        obtain rfl := Option.some.inj H
        go_wp2_with (first | ((with_reducible refine gate_callee (f := 16) rfl ?_); refine goesL_ (some 24) rfl rfl Tryz.func16 (by kernel_rfl) rfl #[.slice A1 l1.length c1] rfl T1_ ?_; (with_reducible refine (pantrymade_Fields.calls kj7 _ _ l1 t409 _ ?side1 ?side2 A20.out).mono ?_); (case side1 => exact C1_ ((Kd.C_below HR1.out HB.out))); (case side2 => exact HC1.out); rintro e w29 ⟨v410, rfl, ho0, hb⟩; refine ⟨_, rfl, ?_⟩; have HO411 := Aside0.mk (Kd.R_lower ho0 (below_size W2_)); replace BK405 := yB_ BK405 hb; replace HB := y2_ hb; (try clear hb); (try clear ho0); obtain ⟨z30_0, z30_1, z30_2, z30_3, z30_4, z30_5, z30_6, y30_0, y30_1, y30_2, y30_3, y30_4, y30_5, y30_6⟩ := cz7_ BK405.out) | ((with_reducible refine gate_callee (f := 17) rfl ?_); refine goesL_ (some 28) rfl rfl Tryz.func17 (by kernel_rfl) rfl #[.agg #[.string a0_0, .int .i64 a0_1, .int .i64 a0_2, .int .i64 a0_3, .bool a0_4, .bool a0_5, .slice A0_6 l0_6.length c0_6], .slice A1 l1.length c1, .int .i64 a3] rfl T1_ ?_; (with_reducible refine (fresh_Life.calls kj7 a0_0 a0_1 a0_2 a0_3 a0_4 a0_5 _ _ l0_6 _ _ l1 a3 t412 _ ?side1 ?side2 ?side3 ?side4 ?side5 A21.out).mono ?_); (case side1 => exact C1_ ((Kd.C_below HR0_6.out HB.out))); (case side2 => exact HC0_6.out); (case side3 => exact C1_ ((Kd.C_below HR1.out HB.out))); (case side4 => exact HC1.out); (case side5 => exact C1_ ((WF.below HRW.out HB.out))); rintro e w31 ⟨rfl, hb⟩; refine ⟨_, rfl, ?_⟩; replace HO411 := Aside0.mk (Kd.R_below (R1_ HO411.out) hb); replace BK405 := yB_ BK405 hb; replace HB := y2_ hb; (try clear hb); obtain ⟨z32_0, z32_1, z32_2, z32_3, z32_4, z32_5, z32_6, y32_0, y32_1, y32_2, y32_3, y32_4, y32_5, y32_6⟩ := cz7_ BK405.out) | ((with_reducible refine gate_callee (f := 15) rfl ?_); refine goesL_ (some 31) rfl rfl Tryz.func15 (by kernel_rfl) rfl #[.agg #[.string a0_0, .int .i64 a0_1, .int .i64 a0_2, .int .i64 a0_3, .bool a0_4, .bool a0_5, .slice A0_6 l0_6.length c0_6]] rfl T1_ ?_; (with_reducible refine (pantrymade_Site.calls a0_0 a0_1 a0_2 a0_3 a0_4 a0_5 (fun k_ => k_ < w.heap.size) _ _ l0_6 t413 t414 t415 t416 t417 t418 t419 _ ?side1 A22.out).mono ?_); (case side1 => exact Kd.V_mk HC0_6.out (Kd.F_below (Kd.C_F Kd.heap_string HR0_6.out) W2_)); rintro e w33 ⟨v420, rfl, ho0, hb⟩; refine ⟨_, rfl, ?_⟩; have HO421 := Aside0.mk (Kd.V_lower (Kd.V_mono (ok' := fun k_ => some k_ ≠ (v410 : Value).ownBlock ∧ k_ ≠ gb405) ho0 (fun k_ hk_ => ⟨Or.elim hk_ (fun hs_ => fun e_ => Nat.not_le.2 hs_ (Kd.R_base HO411.out k_ e_.symm)) (fun hn_ => (Kd.fresh' (Kd.R_lt (R1_ HO411.out)) k_ hn_)), Or.elim hk_ (fun hs_ => fun e_ => Nat.not_le.2 hs_ (by rw [e_]; exact GW405.out)) (fun hn_ => (Kd.freshB (g := gb405) (o := .cells #[.string a0_0, .int .i64 a0_1, .int .i64 a0_2, .int .i64 a0_3, .bool a0_4, .bool a0_5, .slice A0_6 l0_6.length c0_6] 24 (0, 0)) (B1_ BK405.out) k_ hn_))⟩)) (below_size W2_)); replace HO411 := Aside0.mk (Kd.R_below (R1_ HO411.out) hb); replace BK405 := yB_ BK405 hb; replace HB := y2_ hb; (try clear hb); (try clear ho0); obtain ⟨Ao34, co34, eo34⟩ := Kd.V_slice HO421.out; subst eo34; obtain ⟨Ao35, co35, eo35⟩ := Kd.R_slice HO411.out; subst eo35) | ((with_reducible refine gate_callee (f := 18) rfl ?_); refine goesL_ (some 34) rfl rfl Tryz.func18 (by kernel_rfl) rfl #[.agg #[.string t413, .int .i64 t414, .int .i64 t415, .int .i64 t416, .bool t417, .bool t418, .slice Ao34 t419.length co34], .slice Ao35 t409.length co35, .int .i64 a3] rfl T1_ ?_; (with_reducible refine (pantryref12_Life.calls kj7 t413 t414 t415 t416 t417 t418 _ _ t419 _ _ t409 a3 t422 _ ?side1 ?side2 ?side3 ?side4 A23.out).mono ?_); (case side1 => exact C1_ ((Kd.V_reads' HO421.out).2.2)); (case side2 => exact (Kd.V_reads' HO421.out).2.1); (case side3 => exact C1_ ((Kd.R_reads' HO411.out).2.2)); (case side4 => exact (Kd.R_reads' HO411.out).2.1); rintro e w36 ⟨rfl, hb⟩; refine ⟨_, rfl, ?_⟩; replace HO411 := Aside0.mk (Kd.R_below (R1_ HO411.out) hb); replace HO421 := Aside0.mk (Kd.V_below (by (with_reducible repeat (first | apply Kd.V_alloc | apply Kd.V_drewN | apply Kd.V_drew)); exact HO421.out) hb); replace BK405 := yB_ BK405 hb; replace HB := y2_ hb; (try clear hb)) | (go_at_call 19; (with_reducible refine (fresh_Age.calls kj7 _ _ l1 a2 a3 a4 t423 _ ?side1 ?side2 ?side3 A25.out).mono ?_); (case side1 => exact C1_ ((Kd.C_below HR1.out HB.out))); (case side2 => exact HC1.out); (case side3 => exact C1_ ((WF.below HRW.out HB.out))); rintro e w37 ⟨rfl, hb⟩; replace HO411 := Aside0.mk (Kd.R_below (R1_ HO411.out) hb); replace HO421 := Aside0.mk (Kd.V_below (by (with_reducible repeat (first | apply Kd.V_alloc | apply Kd.V_drewN | apply Kd.V_drew)); exact HO421.out) hb); replace BK405 := yB_ BK405 hb; replace HB := y2_ hb; (try clear hb)) | (go_at_call 20; (with_reducible refine (pantryref12_Age.calls kj7 _ _ t409 a2 a3 a4 t424 _ ?side1 ?side2 A26.out).mono ?_); (case side1 => exact C1_ ((Kd.R_reads' HO411.out).2.2)); (case side2 => exact (Kd.R_reads' HO411.out).2.1); rintro e w38 ⟨rfl, hb⟩; replace HO411 := Aside0.mk (Kd.R_below (R1_ HO411.out) hb); replace HO421 := Aside0.mk (Kd.V_below (by (with_reducible repeat (first | apply Kd.V_alloc | apply Kd.V_drewN | apply Kd.V_drew)); exact HO421.out) hb); replace BK405 := yB_ BK405 hb; replace HB := y2_ hb; (try clear hb)))
        go_ret
        exact ⟨E1_, W2_⟩
       ·
        rw [if_neg c28] at H
        have c28b0 : decide (a3 < 0) = false := decide_eq_false c28
        clear c28
        by_cases c39 : a3 > 253402300799
        ·
         rw [if_pos c39] at H
         have c39b0 : decide (253402300799 < a3) = true := decide_eq_true c39
         clear c39
         obtain rfl := Option.some.inj H
         go_wp2_with (first | ((with_reducible refine gate_callee (f := 16) rfl ?_); refine goesL_ (some 24) rfl rfl Tryz.func16 (by kernel_rfl) rfl #[.slice A1 l1.length c1] rfl T1_ ?_; (with_reducible refine (pantrymade_Fields.calls kj7 _ _ l1 t409 _ ?side1 ?side2 A20.out).mono ?_); (case side1 => exact C1_ ((Kd.C_below HR1.out HB.out))); (case side2 => exact HC1.out); rintro e w40 ⟨v410, rfl, ho0, hb⟩; refine ⟨_, rfl, ?_⟩; have HO411 := Aside0.mk (Kd.R_lower ho0 (below_size W2_)); replace BK405 := yB_ BK405 hb; replace HB := y2_ hb; (try clear hb); (try clear ho0); obtain ⟨z41_0, z41_1, z41_2, z41_3, z41_4, z41_5, z41_6, y41_0, y41_1, y41_2, y41_3, y41_4, y41_5, y41_6⟩ := cz7_ BK405.out) | ((with_reducible refine gate_callee (f := 17) rfl ?_); refine goesL_ (some 28) rfl rfl Tryz.func17 (by kernel_rfl) rfl #[.agg #[.string a0_0, .int .i64 a0_1, .int .i64 a0_2, .int .i64 a0_3, .bool a0_4, .bool a0_5, .slice A0_6 l0_6.length c0_6], .slice A1 l1.length c1, .int .i64 a3] rfl T1_ ?_; (with_reducible refine (fresh_Life.calls kj7 a0_0 a0_1 a0_2 a0_3 a0_4 a0_5 _ _ l0_6 _ _ l1 a3 t412 _ ?side1 ?side2 ?side3 ?side4 ?side5 A21.out).mono ?_); (case side1 => exact C1_ ((Kd.C_below HR0_6.out HB.out))); (case side2 => exact HC0_6.out); (case side3 => exact C1_ ((Kd.C_below HR1.out HB.out))); (case side4 => exact HC1.out); (case side5 => exact C1_ ((WF.below HRW.out HB.out))); rintro e w42 ⟨rfl, hb⟩; refine ⟨_, rfl, ?_⟩; replace HO411 := Aside0.mk (Kd.R_below (R1_ HO411.out) hb); replace BK405 := yB_ BK405 hb; replace HB := y2_ hb; (try clear hb); obtain ⟨z43_0, z43_1, z43_2, z43_3, z43_4, z43_5, z43_6, y43_0, y43_1, y43_2, y43_3, y43_4, y43_5, y43_6⟩ := cz7_ BK405.out) | ((with_reducible refine gate_callee (f := 15) rfl ?_); refine goesL_ (some 31) rfl rfl Tryz.func15 (by kernel_rfl) rfl #[.agg #[.string a0_0, .int .i64 a0_1, .int .i64 a0_2, .int .i64 a0_3, .bool a0_4, .bool a0_5, .slice A0_6 l0_6.length c0_6]] rfl T1_ ?_; (with_reducible refine (pantrymade_Site.calls a0_0 a0_1 a0_2 a0_3 a0_4 a0_5 (fun k_ => k_ < w.heap.size) _ _ l0_6 t413 t414 t415 t416 t417 t418 t419 _ ?side1 A22.out).mono ?_); (case side1 => exact Kd.V_mk HC0_6.out (Kd.F_below (Kd.C_F Kd.heap_string HR0_6.out) W2_)); rintro e w44 ⟨v420, rfl, ho0, hb⟩; refine ⟨_, rfl, ?_⟩; have HO421 := Aside0.mk (Kd.V_lower (Kd.V_mono (ok' := fun k_ => some k_ ≠ (v410 : Value).ownBlock ∧ k_ ≠ gb405) ho0 (fun k_ hk_ => ⟨Or.elim hk_ (fun hs_ => fun e_ => Nat.not_le.2 hs_ (Kd.R_base HO411.out k_ e_.symm)) (fun hn_ => (Kd.fresh' (Kd.R_lt (R1_ HO411.out)) k_ hn_)), Or.elim hk_ (fun hs_ => fun e_ => Nat.not_le.2 hs_ (by rw [e_]; exact GW405.out)) (fun hn_ => (Kd.freshB (g := gb405) (o := .cells #[.string a0_0, .int .i64 a0_1, .int .i64 a0_2, .int .i64 a0_3, .bool a0_4, .bool a0_5, .slice A0_6 l0_6.length c0_6] 24 (0, 0)) (B1_ BK405.out) k_ hn_))⟩)) (below_size W2_)); replace HO411 := Aside0.mk (Kd.R_below (R1_ HO411.out) hb); replace BK405 := yB_ BK405 hb; replace HB := y2_ hb; (try clear hb); (try clear ho0); obtain ⟨Ao45, co45, eo45⟩ := Kd.V_slice HO421.out; subst eo45; obtain ⟨Ao46, co46, eo46⟩ := Kd.R_slice HO411.out; subst eo46) | ((with_reducible refine gate_callee (f := 18) rfl ?_); refine goesL_ (some 34) rfl rfl Tryz.func18 (by kernel_rfl) rfl #[.agg #[.string t413, .int .i64 t414, .int .i64 t415, .int .i64 t416, .bool t417, .bool t418, .slice Ao45 t419.length co45], .slice Ao46 t409.length co46, .int .i64 a3] rfl T1_ ?_; (with_reducible refine (pantryref12_Life.calls kj7 t413 t414 t415 t416 t417 t418 _ _ t419 _ _ t409 a3 t422 _ ?side1 ?side2 ?side3 ?side4 A23.out).mono ?_); (case side1 => exact C1_ ((Kd.V_reads' HO421.out).2.2)); (case side2 => exact (Kd.V_reads' HO421.out).2.1); (case side3 => exact C1_ ((Kd.R_reads' HO411.out).2.2)); (case side4 => exact (Kd.R_reads' HO411.out).2.1); rintro e w47 ⟨rfl, hb⟩; refine ⟨_, rfl, ?_⟩; replace HO411 := Aside0.mk (Kd.R_below (R1_ HO411.out) hb); replace HO421 := Aside0.mk (Kd.V_below (by (with_reducible repeat (first | apply Kd.V_alloc | apply Kd.V_drewN | apply Kd.V_drew)); exact HO421.out) hb); replace BK405 := yB_ BK405 hb; replace HB := y2_ hb; (try clear hb)) | (go_at_call 19; (with_reducible refine (fresh_Age.calls kj7 _ _ l1 a2 a3 a4 t423 _ ?side1 ?side2 ?side3 A25.out).mono ?_); (case side1 => exact C1_ ((Kd.C_below HR1.out HB.out))); (case side2 => exact HC1.out); (case side3 => exact C1_ ((WF.below HRW.out HB.out))); rintro e w48 ⟨rfl, hb⟩; replace HO411 := Aside0.mk (Kd.R_below (R1_ HO411.out) hb); replace HO421 := Aside0.mk (Kd.V_below (by (with_reducible repeat (first | apply Kd.V_alloc | apply Kd.V_drewN | apply Kd.V_drew)); exact HO421.out) hb); replace BK405 := yB_ BK405 hb; replace HB := y2_ hb; (try clear hb)) | (go_at_call 20; (with_reducible refine (pantryref12_Age.calls kj7 _ _ t409 a2 a3 a4 t424 _ ?side1 ?side2 A26.out).mono ?_); (case side1 => exact C1_ ((Kd.R_reads' HO411.out).2.2)); (case side2 => exact (Kd.R_reads' HO411.out).2.1); rintro e w49 ⟨rfl, hb⟩; replace HO411 := Aside0.mk (Kd.R_below (R1_ HO411.out) hb); replace HO421 := Aside0.mk (Kd.V_below (by (with_reducible repeat (first | apply Kd.V_alloc | apply Kd.V_drewN | apply Kd.V_drew)); exact HO421.out) hb); replace BK405 := yB_ BK405 hb; replace HB := y2_ hb; (try clear hb)))
         go_ret
         exact ⟨E1_, W2_⟩
        ·
         rw [if_neg c39] at H
         have c39b0 : decide (253402300799 < a3) = false := decide_eq_false c39
         clear c39
         by_cases c50 : a0_2 > a0_3
         ·
          rw [if_pos c50] at H
          have c50b0 : decide (a0_3 < a0_2) = true := decide_eq_true c50
          clear c50
          obtain rfl := Option.some.inj H
          go_wp2_with (first | ((with_reducible refine gate_callee (f := 16) rfl ?_); refine goesL_ (some 24) rfl rfl Tryz.func16 (by kernel_rfl) rfl #[.slice A1 l1.length c1] rfl T1_ ?_; (with_reducible refine (pantrymade_Fields.calls kj7 _ _ l1 t409 _ ?side1 ?side2 A20.out).mono ?_); (case side1 => exact C1_ ((Kd.C_below HR1.out HB.out))); (case side2 => exact HC1.out); rintro e w51 ⟨v410, rfl, ho0, hb⟩; refine ⟨_, rfl, ?_⟩; have HO411 := Aside0.mk (Kd.R_lower ho0 (below_size W2_)); replace BK405 := yB_ BK405 hb; replace HB := y2_ hb; (try clear hb); (try clear ho0); obtain ⟨z52_0, z52_1, z52_2, z52_3, z52_4, z52_5, z52_6, y52_0, y52_1, y52_2, y52_3, y52_4, y52_5, y52_6⟩ := cz7_ BK405.out) | ((with_reducible refine gate_callee (f := 17) rfl ?_); refine goesL_ (some 28) rfl rfl Tryz.func17 (by kernel_rfl) rfl #[.agg #[.string a0_0, .int .i64 a0_1, .int .i64 a0_2, .int .i64 a0_3, .bool a0_4, .bool a0_5, .slice A0_6 l0_6.length c0_6], .slice A1 l1.length c1, .int .i64 a3] rfl T1_ ?_; (with_reducible refine (fresh_Life.calls kj7 a0_0 a0_1 a0_2 a0_3 a0_4 a0_5 _ _ l0_6 _ _ l1 a3 t412 _ ?side1 ?side2 ?side3 ?side4 ?side5 A21.out).mono ?_); (case side1 => exact C1_ ((Kd.C_below HR0_6.out HB.out))); (case side2 => exact HC0_6.out); (case side3 => exact C1_ ((Kd.C_below HR1.out HB.out))); (case side4 => exact HC1.out); (case side5 => exact C1_ ((WF.below HRW.out HB.out))); rintro e w53 ⟨rfl, hb⟩; refine ⟨_, rfl, ?_⟩; replace HO411 := Aside0.mk (Kd.R_below (R1_ HO411.out) hb); replace BK405 := yB_ BK405 hb; replace HB := y2_ hb; (try clear hb); obtain ⟨z54_0, z54_1, z54_2, z54_3, z54_4, z54_5, z54_6, y54_0, y54_1, y54_2, y54_3, y54_4, y54_5, y54_6⟩ := cz7_ BK405.out) | ((with_reducible refine gate_callee (f := 15) rfl ?_); refine goesL_ (some 31) rfl rfl Tryz.func15 (by kernel_rfl) rfl #[.agg #[.string a0_0, .int .i64 a0_1, .int .i64 a0_2, .int .i64 a0_3, .bool a0_4, .bool a0_5, .slice A0_6 l0_6.length c0_6]] rfl T1_ ?_; (with_reducible refine (pantrymade_Site.calls a0_0 a0_1 a0_2 a0_3 a0_4 a0_5 (fun k_ => k_ < w.heap.size) _ _ l0_6 t413 t414 t415 t416 t417 t418 t419 _ ?side1 A22.out).mono ?_); (case side1 => exact Kd.V_mk HC0_6.out (Kd.F_below (Kd.C_F Kd.heap_string HR0_6.out) W2_)); rintro e w55 ⟨v420, rfl, ho0, hb⟩; refine ⟨_, rfl, ?_⟩; have HO421 := Aside0.mk (Kd.V_lower (Kd.V_mono (ok' := fun k_ => some k_ ≠ (v410 : Value).ownBlock ∧ k_ ≠ gb405) ho0 (fun k_ hk_ => ⟨Or.elim hk_ (fun hs_ => fun e_ => Nat.not_le.2 hs_ (Kd.R_base HO411.out k_ e_.symm)) (fun hn_ => (Kd.fresh' (Kd.R_lt (R1_ HO411.out)) k_ hn_)), Or.elim hk_ (fun hs_ => fun e_ => Nat.not_le.2 hs_ (by rw [e_]; exact GW405.out)) (fun hn_ => (Kd.freshB (g := gb405) (o := .cells #[.string a0_0, .int .i64 a0_1, .int .i64 a0_2, .int .i64 a0_3, .bool a0_4, .bool a0_5, .slice A0_6 l0_6.length c0_6] 24 (0, 0)) (B1_ BK405.out) k_ hn_))⟩)) (below_size W2_)); replace HO411 := Aside0.mk (Kd.R_below (R1_ HO411.out) hb); replace BK405 := yB_ BK405 hb; replace HB := y2_ hb; (try clear hb); (try clear ho0); obtain ⟨Ao56, co56, eo56⟩ := Kd.V_slice HO421.out; subst eo56; obtain ⟨Ao57, co57, eo57⟩ := Kd.R_slice HO411.out; subst eo57) | ((with_reducible refine gate_callee (f := 18) rfl ?_); refine goesL_ (some 34) rfl rfl Tryz.func18 (by kernel_rfl) rfl #[.agg #[.string t413, .int .i64 t414, .int .i64 t415, .int .i64 t416, .bool t417, .bool t418, .slice Ao56 t419.length co56], .slice Ao57 t409.length co57, .int .i64 a3] rfl T1_ ?_; (with_reducible refine (pantryref12_Life.calls kj7 t413 t414 t415 t416 t417 t418 _ _ t419 _ _ t409 a3 t422 _ ?side1 ?side2 ?side3 ?side4 A23.out).mono ?_); (case side1 => exact C1_ ((Kd.V_reads' HO421.out).2.2)); (case side2 => exact (Kd.V_reads' HO421.out).2.1); (case side3 => exact C1_ ((Kd.R_reads' HO411.out).2.2)); (case side4 => exact (Kd.R_reads' HO411.out).2.1); rintro e w58 ⟨rfl, hb⟩; refine ⟨_, rfl, ?_⟩; replace HO411 := Aside0.mk (Kd.R_below (R1_ HO411.out) hb); replace HO421 := Aside0.mk (Kd.V_below (by (with_reducible repeat (first | apply Kd.V_alloc | apply Kd.V_drewN | apply Kd.V_drew)); exact HO421.out) hb); replace BK405 := yB_ BK405 hb; replace HB := y2_ hb; (try clear hb)) | (go_at_call 19; (with_reducible refine (fresh_Age.calls kj7 _ _ l1 a2 a3 a4 t423 _ ?side1 ?side2 ?side3 A25.out).mono ?_); (case side1 => exact C1_ ((Kd.C_below HR1.out HB.out))); (case side2 => exact HC1.out); (case side3 => exact C1_ ((WF.below HRW.out HB.out))); rintro e w59 ⟨rfl, hb⟩; replace HO411 := Aside0.mk (Kd.R_below (R1_ HO411.out) hb); replace HO421 := Aside0.mk (Kd.V_below (by (with_reducible repeat (first | apply Kd.V_alloc | apply Kd.V_drewN | apply Kd.V_drew)); exact HO421.out) hb); replace BK405 := yB_ BK405 hb; replace HB := y2_ hb; (try clear hb)) | (go_at_call 20; (with_reducible refine (pantryref12_Age.calls kj7 _ _ t409 a2 a3 a4 t424 _ ?side1 ?side2 A26.out).mono ?_); (case side1 => exact C1_ ((Kd.R_reads' HO411.out).2.2)); (case side2 => exact (Kd.R_reads' HO411.out).2.1); rintro e w60 ⟨rfl, hb⟩; replace HO411 := Aside0.mk (Kd.R_below (R1_ HO411.out) hb); replace HO421 := Aside0.mk (Kd.V_below (by (with_reducible repeat (first | apply Kd.V_alloc | apply Kd.V_drewN | apply Kd.V_drew)); exact HO421.out) hb); replace BK405 := yB_ BK405 hb; replace HB := y2_ hb; (try clear hb); obtain ⟨z61_0, z61_1, z61_2, z61_3, z61_4, z61_5, z61_6, y61_0, y61_1, y61_2, y61_3, y61_4, y61_5, y61_6⟩ := cz7_ BK405.out))
          go_ret
          exact ⟨E1_, W2_⟩
         ·
          rw [if_neg c50] at H
          have c50b0 : decide (a0_3 < a0_2) = false := decide_eq_false c50
          clear c50
          by_cases c62 : t412 ≥ a0_2
          ·
           rw [if_pos c62] at H
           have c62b0 : decide (a0_2 ≤ t412) = true := decide_eq_true c62
           clear c62
           obtain rfl := Option.some.inj H
           go_wp2_with (first | ((with_reducible refine gate_callee (f := 16) rfl ?_); refine goesL_ (some 24) rfl rfl Tryz.func16 (by kernel_rfl) rfl #[.slice A1 l1.length c1] rfl T1_ ?_; (with_reducible refine (pantrymade_Fields.calls kj7 _ _ l1 t409 _ ?side1 ?side2 A20.out).mono ?_); (case side1 => exact C1_ ((Kd.C_below HR1.out HB.out))); (case side2 => exact HC1.out); rintro e w63 ⟨v410, rfl, ho0, hb⟩; refine ⟨_, rfl, ?_⟩; have HO411 := Aside0.mk (Kd.R_lower ho0 (below_size W2_)); replace BK405 := yB_ BK405 hb; replace HB := y2_ hb; (try clear hb); (try clear ho0); obtain ⟨z64_0, z64_1, z64_2, z64_3, z64_4, z64_5, z64_6, y64_0, y64_1, y64_2, y64_3, y64_4, y64_5, y64_6⟩ := cz7_ BK405.out) | ((with_reducible refine gate_callee (f := 17) rfl ?_); refine goesL_ (some 28) rfl rfl Tryz.func17 (by kernel_rfl) rfl #[.agg #[.string a0_0, .int .i64 a0_1, .int .i64 a0_2, .int .i64 a0_3, .bool a0_4, .bool a0_5, .slice A0_6 l0_6.length c0_6], .slice A1 l1.length c1, .int .i64 a3] rfl T1_ ?_; (with_reducible refine (fresh_Life.calls kj7 a0_0 a0_1 a0_2 a0_3 a0_4 a0_5 _ _ l0_6 _ _ l1 a3 t412 _ ?side1 ?side2 ?side3 ?side4 ?side5 A21.out).mono ?_); (case side1 => exact C1_ ((Kd.C_below HR0_6.out HB.out))); (case side2 => exact HC0_6.out); (case side3 => exact C1_ ((Kd.C_below HR1.out HB.out))); (case side4 => exact HC1.out); (case side5 => exact C1_ ((WF.below HRW.out HB.out))); rintro e w65 ⟨rfl, hb⟩; refine ⟨_, rfl, ?_⟩; replace HO411 := Aside0.mk (Kd.R_below (R1_ HO411.out) hb); replace BK405 := yB_ BK405 hb; replace HB := y2_ hb; (try clear hb); obtain ⟨z66_0, z66_1, z66_2, z66_3, z66_4, z66_5, z66_6, y66_0, y66_1, y66_2, y66_3, y66_4, y66_5, y66_6⟩ := cz7_ BK405.out) | ((with_reducible refine gate_callee (f := 15) rfl ?_); refine goesL_ (some 31) rfl rfl Tryz.func15 (by kernel_rfl) rfl #[.agg #[.string a0_0, .int .i64 a0_1, .int .i64 a0_2, .int .i64 a0_3, .bool a0_4, .bool a0_5, .slice A0_6 l0_6.length c0_6]] rfl T1_ ?_; (with_reducible refine (pantrymade_Site.calls a0_0 a0_1 a0_2 a0_3 a0_4 a0_5 (fun k_ => k_ < w.heap.size) _ _ l0_6 t413 t414 t415 t416 t417 t418 t419 _ ?side1 A22.out).mono ?_); (case side1 => exact Kd.V_mk HC0_6.out (Kd.F_below (Kd.C_F Kd.heap_string HR0_6.out) W2_)); rintro e w67 ⟨v420, rfl, ho0, hb⟩; refine ⟨_, rfl, ?_⟩; have HO421 := Aside0.mk (Kd.V_lower (Kd.V_mono (ok' := fun k_ => some k_ ≠ (v410 : Value).ownBlock ∧ k_ ≠ gb405) ho0 (fun k_ hk_ => ⟨Or.elim hk_ (fun hs_ => fun e_ => Nat.not_le.2 hs_ (Kd.R_base HO411.out k_ e_.symm)) (fun hn_ => (Kd.fresh' (Kd.R_lt (R1_ HO411.out)) k_ hn_)), Or.elim hk_ (fun hs_ => fun e_ => Nat.not_le.2 hs_ (by rw [e_]; exact GW405.out)) (fun hn_ => (Kd.freshB (g := gb405) (o := .cells #[.string a0_0, .int .i64 a0_1, .int .i64 a0_2, .int .i64 a0_3, .bool a0_4, .bool a0_5, .slice A0_6 l0_6.length c0_6] 24 (0, 0)) (B1_ BK405.out) k_ hn_))⟩)) (below_size W2_)); replace HO411 := Aside0.mk (Kd.R_below (R1_ HO411.out) hb); replace BK405 := yB_ BK405 hb; replace HB := y2_ hb; (try clear hb); (try clear ho0); obtain ⟨Ao68, co68, eo68⟩ := Kd.V_slice HO421.out; subst eo68; obtain ⟨Ao69, co69, eo69⟩ := Kd.R_slice HO411.out; subst eo69) | ((with_reducible refine gate_callee (f := 18) rfl ?_); refine goesL_ (some 34) rfl rfl Tryz.func18 (by kernel_rfl) rfl #[.agg #[.string t413, .int .i64 t414, .int .i64 t415, .int .i64 t416, .bool t417, .bool t418, .slice Ao68 t419.length co68], .slice Ao69 t409.length co69, .int .i64 a3] rfl T1_ ?_; (with_reducible refine (pantryref12_Life.calls kj7 t413 t414 t415 t416 t417 t418 _ _ t419 _ _ t409 a3 t422 _ ?side1 ?side2 ?side3 ?side4 A23.out).mono ?_); (case side1 => exact C1_ ((Kd.V_reads' HO421.out).2.2)); (case side2 => exact (Kd.V_reads' HO421.out).2.1); (case side3 => exact C1_ ((Kd.R_reads' HO411.out).2.2)); (case side4 => exact (Kd.R_reads' HO411.out).2.1); rintro e w70 ⟨rfl, hb⟩; refine ⟨_, rfl, ?_⟩; replace HO411 := Aside0.mk (Kd.R_below (R1_ HO411.out) hb); replace HO421 := Aside0.mk (Kd.V_below (by (with_reducible repeat (first | apply Kd.V_alloc | apply Kd.V_drewN | apply Kd.V_drew)); exact HO421.out) hb); replace BK405 := yB_ BK405 hb; replace HB := y2_ hb; (try clear hb)) | (go_at_call 19; (with_reducible refine (fresh_Age.calls kj7 _ _ l1 a2 a3 a4 t423 _ ?side1 ?side2 ?side3 A25.out).mono ?_); (case side1 => exact C1_ ((Kd.C_below HR1.out HB.out))); (case side2 => exact HC1.out); (case side3 => exact C1_ ((WF.below HRW.out HB.out))); rintro e w71 ⟨rfl, hb⟩; replace HO411 := Aside0.mk (Kd.R_below (R1_ HO411.out) hb); replace HO421 := Aside0.mk (Kd.V_below (by (with_reducible repeat (first | apply Kd.V_alloc | apply Kd.V_drewN | apply Kd.V_drew)); exact HO421.out) hb); replace BK405 := yB_ BK405 hb; replace HB := y2_ hb; (try clear hb)) | (go_at_call 20; (with_reducible refine (pantryref12_Age.calls kj7 _ _ t409 a2 a3 a4 t424 _ ?side1 ?side2 A26.out).mono ?_); (case side1 => exact C1_ ((Kd.R_reads' HO411.out).2.2)); (case side2 => exact (Kd.R_reads' HO411.out).2.1); rintro e w72 ⟨rfl, hb⟩; replace HO411 := Aside0.mk (Kd.R_below (R1_ HO411.out) hb); replace HO421 := Aside0.mk (Kd.V_below (by (with_reducible repeat (first | apply Kd.V_alloc | apply Kd.V_drewN | apply Kd.V_drew)); exact HO421.out) hb); replace BK405 := yB_ BK405 hb; replace HB := y2_ hb; (try clear hb); obtain ⟨z73_0, z73_1, z73_2, z73_3, z73_4, z73_5, z73_6, y73_0, y73_1, y73_2, y73_3, y73_4, y73_5, y73_6⟩ := cz7_ BK405.out))
           go_ret
           exact ⟨E1_, W2_⟩
          ·
           rw [if_neg c62] at H
           exact absurd H (by simp)
      ·
       rw [if_neg c27] at H
       exact absurd H (by simp)
     ·
      rw [if_neg c24] at H
      exact absurd H (by simp)
 ·
  replace c7 := Bool.eq_false_iff.mpr c7
  subst c7
  rw [if_neg (show ¬ (false = true) by decide)] at H
  exact absurd H (by simp)

end Go.Proofs.YtgpekljckdgggaaGreatDoor.PAll
