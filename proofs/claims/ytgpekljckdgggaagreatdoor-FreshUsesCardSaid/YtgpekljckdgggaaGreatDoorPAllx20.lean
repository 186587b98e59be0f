import Derived.Test.YtgpekljckdgggaaGreatDoorPAllx0
import Derived.Test.YtgpekljckdgggaaGreatDoorPAllx13
import Derived.Test.YtgpekljckdgggaaGreatDoorPAllx15
import Derived.Test.YtgpekljckdgggaaGreatDoorPAllx18
namespace Go.Proofs.YtgpekljckdgggaaGreatDoor.PAll
open Go.RowKit Go.Proofs.YtgpekljckdgggaaGreatDoorW.PrintWords Go.Proofs.YtgpekljckdgggaaGreatDoorW.PrintLast Go.Proofs.YtgpekljckdgggaaGreatDoorW.PrintMore
attribute [local go_sem] max2_int min2_int max_two min_two max_three min_three max_four min_four   -- for this text's walks alone
set_option linter.unusedVariables false
set_option linter.unusedSimpArgs false

/-! ### pantryref12_Age: function 20 -/
mutual
def pantryref12_Age.j0 : Nat → List (S70) → Int → Int → Int → Bool → Option (Int)
 | 0, _, _, _, _, _ => none
 | k + 1, x0, x1, x2, x3, x37 => if x37 = true then (some 0) else ((pantryref12_Dated.f k x0 (⟨#[100, 97, 116, 101]⟩ : ByteArray)).bind fun bt399 => (if bt399.2 = true then (pantryref12_Age.j1 k x0 x1 x2 x3 0 bt399.1 (decide (bt399.1 < x2))) else (pantryref12_Age.j1 k x0 x1 x2 x3 0 bt399.1 false)))
def pantryref12_Age.j1 : Nat → List (S70) → Int → Int → Int → Int → Int → Bool → Option (Int)
 | 0, _, _, _, _, _, _, _ => none
 | k + 1, x0, x1, x2, x3, x9, x10, x48 => if x48 = true then (pantryref12_Age.j2 k x0 x1 x2 x3 (wrap64 (x2 - x10))) else (pantryref12_Age.j2 k x0 x1 x2 x3 x9)
def pantryref12_Age.j2 : Nat → List (S70) → Int → Int → Int → Int → Option (Int)
 | 0, _, _, _, _, _ => none
 | k + 1, x0, x1, x2, x3, x9 => (pantryref03_Get.f k x0 (⟨#[97, 103, 101]⟩ : ByteArray)).bind fun bt401 => ((pantryref01_Number.f k bt401.1).bind fun bt403 => (if x2 > x1 then (pantryref12_Age.j3 k x2 x3 x9 (wrap64 (bt403.1 + (wrap64 (x2 - x1))))) else (pantryref12_Age.j3 k x2 x3 x9 bt403.1)))
def pantryref12_Age.j3 : Nat → Int → Int → Int → Int → Option (Int)
 | 0, _, _, _, _ => none
 | k + 1, x2, x3, x9, x14 => if x14 > x9 then (if x3 > x2 then (some (wrap64 (x14 + (wrap64 (x3 - x2))))) else (some x14)) else (if x3 > x2 then (some (wrap64 (x9 + (wrap64 (x3 - x2))))) else (some x9))
end
def pantryref12_Age.f (k : Nat) (l0 : List (S70)) (a1 : Int) (a2 : Int) (a3 : Int) : Option (Int) := if a1 < 0 then (pantryref12_Age.j0 k l0 a1 a2 a3 true) else (if a2 < 0 then (pantryref12_Age.j0 k l0 a1 a2 a3 true) else (if a3 < 0 then (pantryref12_Age.j0 k l0 a1 a2 a3 true) else (if a1 > 253402300799 then (pantryref12_Age.j0 k l0 a1 a2 a3 true) else (if a2 > 253402300799 then (pantryref12_Age.j0 k l0 a1 a2 a3 true) else (pantryref12_Age.j0 k l0 a1 a2 a3 (decide (a3 > 253402300799)))))))
theorem pantryref12_Age.mono_l : ∀ k, (∀ y0 y1 y2 y3 y4, LeO (pantryref12_Age.j0 k y0 y1 y2 y3 y4) (pantryref12_Age.j0 (k + 1) y0 y1 y2 y3 y4)) ∧ (∀ y0 y1 y2 y3 y4 y5 y6, LeO (pantryref12_Age.j1 k y0 y1 y2 y3 y4 y5 y6) (pantryref12_Age.j1 (k + 1) y0 y1 y2 y3 y4 y5 y6)) ∧ (∀ y0 y1 y2 y3 y4, LeO (pantryref12_Age.j2 k y0 y1 y2 y3 y4) (pantryref12_Age.j2 (k + 1) y0 y1 y2 y3 y4)) ∧ (∀ y0 y1 y2 y3, LeO (pantryref12_Age.j3 k y0 y1 y2 y3) (pantryref12_Age.j3 (k + 1) y0 y1 y2 y3))
 | 0 => ⟨fun _ _ _ _ _ r h => by simp [pantryref12_Age.j0] at h, fun _ _ _ _ _ _ _ r h => by simp [pantryref12_Age.j1] at h, fun _ _ _ _ _ r h => by simp [pantryref12_Age.j2] at h, fun _ _ _ _ r h => by simp [pantryref12_Age.j3] at h⟩
 | k + 1 => by
  obtain ⟨ih0, ih1, ih2, ih3⟩ := pantryref12_Age.mono_l k
  refine ⟨?_, ?_, ?_, ?_⟩
  ·
   intro y0 y1 y2 y3 y4
   unfold pantryref12_Age.j0
   repeat' (with_reducible first | exact ih0 _ _ _ _ _ | exact ih1 _ _ _ _ _ _ _ | exact ih2 _ _ _ _ _ | exact ih3 _ _ _ _ | exact pantryref01_Number.mono _ _ | exact pantryref03_Get.mono _ _ _ | exact pantryref12_Dated.mono _ _ _ | exact lR_ | refine LeO.ite ?_ ?_ | refine LeO.bind ?_ (fun _ => ?_))
  ·
   intro y0 y1 y2 y3 y4 y5 y6
   unfold pantryref12_Age.j1
   repeat' (with_reducible first | exact ih0 _ _ _ _ _ | exact ih1 _ _ _ _ _ _ _ | exact ih2 _ _ _ _ _ | exact ih3 _ _ _ _ | exact pantryref01_Number.mono _ _ | exact pantryref03_Get.mono _ _ _ | exact pantryref12_Dated.mono _ _ _ | exact lR_ | refine LeO.ite ?_ ?_ | refine LeO.bind ?_ (fun _ => ?_))
  ·
   intro y0 y1 y2 y3 y4
   unfold pantryref12_Age.j2
   repeat' (with_reducible first | exact ih0 _ _ _ _ _ | exact ih1 _ _ _ _ _ _ _ | exact ih2 _ _ _ _ _ | exact ih3 _ _ _ _ | exact pantryref01_Number.mono _ _ | exact pantryref03_Get.mono _ _ _ | exact pantryref12_Dated.mono _ _ _ | exact lR_ | refine LeO.ite ?_ ?_ | refine LeO.bind ?_ (fun _ => ?_))
  ·
   intro y0 y1 y2 y3
   unfold pantryref12_Age.j3
   repeat' (with_reducible first | exact ih0 _ _ _ _ _ | exact ih1 _ _ _ _ _ _ _ | exact ih2 _ _ _ _ _ | exact ih3 _ _ _ _ | exact pantryref01_Number.mono _ _ | exact pantryref03_Get.mono _ _ _ | exact pantryref12_Dated.mono _ _ _ | exact lR_ | refine LeO.ite ?_ ?_ | refine LeO.bind ?_ (fun _ => ?_))
theorem pantryref12_Age.mono : ∀ a0 a1 a2 a3 k, LeO (pantryref12_Age.f k a0 a1 a2 a3) (pantryref12_Age.f (k + 1) a0 a1 a2 a3) := by
 intro a0 a1 a2 a3 k
 obtain ⟨ih0, ih1, ih2, ih3⟩ := pantryref12_Age.mono_l k
 unfold pantryref12_Age.f
 repeat' (with_reducible first | exact ih0 _ _ _ _ _ | exact ih1 _ _ _ _ _ _ _ | exact ih2 _ _ _ _ _ | exact ih3 _ _ _ _ | exact pantryref01_Number.mono _ _ | exact pantryref03_Get.mono _ _ _ | exact pantryref12_Dated.mono _ _ _ | exact lR_ | refine LeO.ite ?_ ?_ | refine LeO.bind ?_ (fun _ => ?_))
set_option maxHeartbeats 8000000 in
set_option maxRecDepth 100000 in
theorem pantryref12_Age.calls (k : Nat) (A0 : Option Addr) (c0 : Nat) (l0 : List (S70)) (a1 : Int) (a2 : Int) (a3 : Int) (r : Int) (w : World) (hr0 : Kd.C k70 w A0 l0.length l0) (hc0 : l0.length ≤ c0) (h : pantryref12_Age.f k l0 a1 a2 a3 = some r) :
  Calls Tryz.prog 20 #[.slice A0 l0.length c0, .int .i64 a1, .int .i64 a2, .int .i64 a3] w fun e w' => e = .returned (.int .i64 r) ∧ Below w.heap.size w w' := by
 have HR0 := Aside0.mk hr0
 have HC0 := Aside0.mk hc0
 clear hr0 hc0
 have HB := Aside0.mk (Below.refl w.heap.size w)
 have H : (if a1 < 0 then (pantryref12_Age.j0 k l0 a1 a2 a3 true) else (if a2 < 0 then (pantryref12_Age.j0 k l0 a1 a2 a3 true) else (if a3 < 0 then (pantryref12_Age.j0 k l0 a1 a2 a3 true) else (if a1 > 253402300799 then (pantryref12_Age.j0 k l0 a1 a2 a3 true) else (if a2 > 253402300799 then (pantryref12_Age.j0 k l0 a1 a2 a3 true) else (pantryref12_Age.j0 k l0 a1 a2 a3 (decide (a3 > 253402300799)))))))) = some r := h
 clear h
 have HC5 := Aside0.mk H
 clear H
 go_enter Tryz.func20, Tryz.ntmps20
 go_upto_region 1 with (fail)
 go_cut [37] (fun v37 wc => ∃ (kq : Nat) (x37_4 : Bool), v37 = .bool x37_4 ∧ Aside0 (pantryref12_Age.j0 kq l0 a1 a2 a3 x37_4 = some r) ∧ Aside0 (kq ≤ k) ∧ Aside0 (Below w.heap.size w wc))
 case first =>
  have H := HC5.out
  clear HC5
  by_cases c6 : a1 < 0
  ·
   rw [if_pos c6] at H
   have c6b0 : decide (a1 < 0) = true := decide_eq_true c6
   clear c6
   (first | rw [c6b0] | (simp only [i64_w, i32_w]; rw [c6b0]) | skip)
   have H' := Aside0.mk H
   clear H
   go_wp2
   go_meet
   case rel => exact ⟨_, (true), E3_, H', ⟨by first | omega | exact Nat.le_refl _⟩, ⟨W1_⟩⟩
  ·
   rw [if_neg c6] at H
   have c6b0 : decide (a1 < 0) = false := decide_eq_false c6
   clear c6
   (first | rw [c6b0] | (simp only [i64_w, i32_w]; rw [c6b0]) | skip)
   by_cases c7 : a2 < 0
   ·
    rw [if_pos c7] at H
    have c7b0 : decide (a2 < 0) = true := decide_eq_true c7
    clear c7
    have H' := Aside0.mk H
    clear H
    go_wp2
    go_meet
    case rel => exact ⟨_, (true), E3_, H', ⟨by first | omega | exact Nat.le_refl _⟩, ⟨W1_⟩⟩
   ·
    rw [if_neg c7] at H
    have c7b0 : decide (a2 < 0) = false := decide_eq_false c7
    clear c7
    by_cases c8 : a3 < 0
    ·
     rw [if_pos c8] at H
     have c8b0 : decide (a3 < 0) = true := decide_eq_true c8
     clear c8
     have H' := Aside0.mk H
     clear H
     go_wp2
     go_meet
     case rel => exact ⟨_, (true), E3_, H', ⟨by first | omega | exact Nat.le_refl _⟩, ⟨W1_⟩⟩
    ·
     rw [if_neg c8] at H
     have c8b0 : decide (a3 < 0) = false := decide_eq_false c8
     clear c8
     by_cases c9 : a1 > 253402300799
     ·
      rw [if_pos c9] at H
      have c9b0 : decide (253402300799 < a1) = true := decide_eq_true c9
      clear c9
      have H' := Aside0.mk H
      clear H
      go_wp2
      go_meet
      case rel => exact ⟨_, (true), E3_, H', ⟨by first | omega | exact Nat.le_refl _⟩, ⟨W1_⟩⟩
     ·
      rw [if_neg c9] at H
      have c9b0 : decide (253402300799 < a1) = false := decide_eq_false c9
      clear c9
      by_cases c10 : a2 > 253402300799
      ·
       rw [if_pos c10] at H
       have c10b0 : decide (253402300799 < a2) = true := decide_eq_true c10
       clear c10
       have H' := Aside0.mk H
       clear H
       go_wp2
       go_meet
       case rel => exact ⟨_, (true), E3_, H', ⟨by first | omega | exact Nat.le_refl _⟩, ⟨W1_⟩⟩
      ·
       rw [if_neg c10] at H
       have c10b0 : decide (253402300799 < a2) = false := decide_eq_false c10
       clear c10
       have H' := Aside0.mk H
       clear H
       go_wp2
       go_meet
       case rel => exact ⟨_, (decide (a3 > 253402300799)), E3_, H', ⟨by first | omega | exact Nat.le_refl _⟩, ⟨W1_⟩⟩
 case rest =>
  clear HC5
  (try clear c6); (try clear c6b0); (try clear c7); (try clear c7b0); (try clear c8); (try clear c8b0); (try clear c9); (try clear c9b0); (try clear c10); (try clear c10b0)
  obtain ⟨kq, x37_4, rfl, HA, HJ4, HB⟩ := hcut
  cases kq with
  | zero => exact absurd HA.out (by simp [pantryref12_Age.j0])
  | succ kj4 =>
   have H := HA.out
   clear HA
   simp only [pantryref12_Age.j0] at H
   by_cases c11 : x37_4 = true
   ·
    subst c11
    rw [if_pos rfl] at H
    obtain rfl := Option.some.inj H
    go_wp2
    go_ret
    exact ⟨E1_, W1_⟩
   ·
    replace c11 := Bool.eq_false_iff.mpr c11
    subst c11
    rw [if_neg (show ¬ (false = true) by decide)] at H
    obtain ⟨⟨t399, t400⟩, A12, H⟩ := bS_ H
    try dsimp only at H
    have HC13 := Aside0.mk H
    clear H
    go_upto_region 5 with (first | ((with_reducible refine gate_callee (f := 39) rfl ?_); refine goesL_ (some 40) rfl rfl Tryz.func39 (by kernel_rfl) rfl #[.slice A0 l0.length c0, .string (⟨#[100, 97, 116, 101]⟩ : ByteArray)] rfl T1_ ?_; (with_reducible refine (pantryref12_Dated.calls kj4 _ _ l0 (⟨#[100, 97, 116, 101]⟩ : ByteArray) t399 t400 _ ?side1 ?side2 A12.out).mono ?_); (case side1 => exact C1_ ((Kd.C_below HR0.out HB.out))); (case side2 => exact HC0.out); rintro e w14 ⟨rfl, hb⟩; refine ⟨_, rfl, ?_⟩; replace HB := y1_ hb; (try clear hb)))
    (try simp only [Act.put, sA_, sZ_, sS_])
    go_cut [48] (fun v48 wc => ∃ (kq : Nat) (x48_12 : Bool), v48 = .bool x48_12 ∧ Aside0 (pantryref12_Age.j1 kq l0 a1 a2 a3 0 t399 x48_12 = some r) ∧ Aside0 (kq ≤ kj4) ∧ Aside0 (Below w.heap.size w wc))
    case first =>
     have H := HC13.out
     clear HC13
     by_cases c15 : t400 = true
     ·
      subst c15
      rw [if_pos rfl] at H
      have H' := Aside0.mk H
      clear H
      go_wp2
      go_meet
      case rel => exact ⟨_, (decide (t399 < a2)), E3_, H', ⟨by have := HJ4.out; first | omega | exact Nat.le_refl _⟩, ⟨W1_⟩⟩
     ·
      replace c15 := Bool.eq_false_iff.mpr c15
      subst c15
      rw [if_neg (show ¬ (false = true) by decide)] at H
      have H' := Aside0.mk H
      clear H
      go_wp2
      go_meet
      case rel => exact ⟨_, (false), E3_, H', ⟨by have := HJ4.out; first | omega | exact Nat.le_refl _⟩, ⟨W1_⟩⟩
    case rest =>
     clear HC13
     (try clear c6); (try clear c6b0); (try clear c7); (try clear c7b0); (try clear c8); (try clear c8b0); (try clear c9); (try clear c9b0); (try clear c10); (try clear c10b0); (try clear c11); (try clear c15)
     obtain ⟨kq, x48_12, rfl, HA, HJ12, HB⟩ := hcut
     cases kq with
     | zero => exact absurd HA.out (by simp [pantryref12_Age.j1])
     | succ kj12 =>
      have H := HA.out
      clear HA
      simp only [pantryref12_Age.j1] at H
      have HC16 := Aside0.mk H
      clear H
      go_upto_if 48 with (fail)
      go_cut [9] (fun v9 wc => ∃ (kq : Nat) (x9_15 : Int), v9 = .int .i64 x9_15 ∧ Aside0 (pantryref12_Age.j2 kq l0 a1 a2 a3 x9_15 = some r) ∧ Aside0 (kq ≤ kj12) ∧ Aside0 (Below w.heap.size w wc))
      case first =>
       have H := HC16.out
       clear HC16
       by_cases c17 : x48_12 = true
       ·
        subst c17
        rw [if_pos rfl] at H
        have H' := Aside0.mk H
        clear H
        go_wp2
        go_meet
        case rel => exact ⟨_, (wrap64 (a2 - t399)), E3_, H', ⟨by have := HJ4.out; have := HJ12.out; first | omega | exact Nat.le_refl _⟩, ⟨W1_⟩⟩
       ·
        replace c17 := Bool.eq_false_iff.mpr c17
        subst c17
        rw [if_neg (show ¬ (false = true) by decide)] at H
        have H' := Aside0.mk H
        clear H
        go_wp2
        go_meet
        case rel => exact ⟨_, (0), E3_, H', ⟨by have := HJ4.out; have := HJ12.out; first | omega | exact Nat.le_refl _⟩, ⟨W1_⟩⟩
      case rest =>
       clear HC16
       (try clear c6); (try clear c6b0); (try clear c7); (try clear c7b0); (try clear c8); (try clear c8b0); (try clear c9); (try clear c9b0); (try clear c10); (try clear c10b0); (try clear c11); (try clear c15); (try clear c17)
       obtain ⟨kq, x9_15, rfl, HA, HJ15, HB⟩ := hcut
       cases kq with
       | zero => exact absurd HA.out (by simp [pantryref12_Age.j2])
       | succ kj15 =>
        have H := HA.out
        clear HA
        simp only [pantryref12_Age.j2] at H
        obtain ⟨⟨t401, t402⟩, A18, H⟩ := bS_ H
        try dsimp only at H
        obtain ⟨⟨t403, t404⟩, A19, H⟩ := bS_ H
        try dsimp only at H
        have HC20 := Aside0.mk H
        clear H
        go_upto_if 64 with (first | ((with_reducible refine gate_callee (f := 32) rfl ?_); refine goesL_ (some 54) rfl rfl Tryz.func32 (by kernel_rfl) rfl #[.slice A0 l0.length c0, .string (⟨#[97, 103, 101]⟩ : ByteArray)] rfl T1_ ?_; (with_reducible refine (pantryref03_Get.calls kj15 _ _ l0 (⟨#[97, 103, 101]⟩ : ByteArray) t401 t402 _ ?side1 ?side2 A18.out).mono ?_); (case side1 => exact C1_ ((Kd.C_below HR0.out HB.out))); (case side2 => exact HC0.out); rintro e w21 ⟨rfl, hb⟩; refine ⟨_, rfl, ?_⟩; replace HB := y1_ hb; (try clear hb)) | ((with_reducible refine gate_callee (f := 40) rfl ?_); refine goesL_ (some 59) rfl rfl Tryz.func40 (by kernel_rfl) rfl #[.string t401] rfl T1_ ?_; (with_reducible refine (pantryref01_Number.calls kj15 t401 t403 t404 _ A19.out).mono ?_); rintro e w' ⟨rfl, ⟨nd, rfl⟩⟩; refine ⟨_, rfl, ?_⟩))
        (try simp only [Act.put, sA_, sZ_, sS_])
        go_cut [14] (fun v14 wc => ∃ (kq : Nat) (x14_19 : Int), v14 = .int .i64 x14_19 ∧ Aside0 (pantryref12_Age.j3 kq a2 a3 x9_15 x14_19 = some r) ∧ Aside0 (kq ≤ kj15) ∧ Aside0 (Below w.heap.size w wc))
        case first =>
         have H := HC20.out
         clear HC20
         by_cases c22 : a2 > a1
         ·
          rw [if_pos c22] at H
          have c22b0 : decide (a1 < a2) = true := decide_eq_true c22
          clear c22
          (first | rw [c22b0] | (simp only [i64_w, i32_w]; rw [c22b0]) | skip)
          have H' := Aside0.mk H
          clear H
          go_wp2
          go_meet
          case rel => exact ⟨_, (wrap64 (t403 + (wrap64 (a2 - a1)))), E3_, H', ⟨by have := HJ4.out; have := HJ12.out; have := HJ15.out; first | omega | exact Nat.le_refl _⟩, ⟨W1_⟩⟩
         ·
          rw [if_neg c22] at H
          have c22b0 : decide (a1 < a2) = false := decide_eq_false c22
          clear c22
          (first | rw [c22b0] | (simp only [i64_w, i32_w]; rw [c22b0]) | skip)
          have H' := Aside0.mk H
          clear H
          go_wp2
          go_meet
          case rel => exact ⟨_, (t403), E3_, H', ⟨by have := HJ4.out; have := HJ12.out; have := HJ15.out; first | omega | exact Nat.le_refl _⟩, ⟨W1_⟩⟩
        case rest =>
         clear HC20
         (try clear c6); (try clear c6b0); (try clear c7); (try clear c7b0); (try clear c8); (try clear c8b0); (try clear c9); (try clear c9b0); (try clear c10); (try clear c10b0); (try clear c11); (try clear c15); (try clear c17); (try clear c22); (try clear c22b0)
         obtain ⟨kq, x14_19, rfl, HA, HJ19, HB⟩ := hcut
         cases kq with
         | zero => exact absurd HA.out (by simp [pantryref12_Age.j3])
         | succ kj19 =>
          have H := HA.out
          clear HA
          simp only [pantryref12_Age.j3] at H
          by_cases c23 : x14_19 > x9_15
          ·
           rw [if_pos c23] at H
           have c23b0 : decide (x9_15 < x14_19) = true := decide_eq_true c23
           clear c23
           by_cases c24 : a3 > a2
           ·
            rw [if_pos c24] at H
            have c24b0 : decide (a2 < a3) = true := decide_eq_true c24
            clear c24
            obtain rfl := Option.some.inj H
            go_wp2
            go_ret
            exact ⟨E1_, W1_⟩
           ·
            rw [if_neg c24] at H
            have c24b0 : decide (a2 < a3) = false := decide_eq_false c24
            clear c24
            obtain rfl := Option.some.inj H
            go_wp2
            go_ret
            exact ⟨E1_, W1_⟩
          ·
           rw [if_neg c23] at H
           have c23b0 : decide (x9_15 < x14_19) = false := decide_eq_false c23
           clear c23
           by_cases c25 : a3 > a2
           ·
            rw [if_pos c25] at H
            have c25b0 : decide (a2 < a3) = true := decide_eq_true c25
            clear c25
            obtain rfl := Option.some.inj H
            go_wp2
            go_ret
            exact ⟨E1_, W1_⟩
           ·
            rw [if_neg c25] at H
            have c25b0 : decide (a2 < a3) = false := decide_eq_false c25
            clear c25
            obtain rfl := Option.some.inj H
            go_wp2
            go_ret
            exact ⟨E1_, W1_⟩

end Go.Proofs.YtgpekljckdgggaaGreatDoor.PAll
