import Derived.Deep.Cut
import Derived.Deep.CutRange
import Derived.Deep.CutBlock
import Derived.Test.YtfcifigemiafgaaDoorPAllx0
import Derived.Test.YtfcifigemiafgaaDoorPAllx2
import Derived.Test.YtfcifigemiafgaaDoorPAllx4
import Derived.Test.YtfcifigemiafgaaDoorPAllx9
namespace Go.Proofs.YtfcifigemiafgaaDoor.PAll
open Go.RowKit Go.Proofs.YtfcifigemiafgaaDoorW.PrintWords Go.Proofs.YtfcifigemiafgaaDoorW.PrintLast Go.Proofs.YtfcifigemiafgaaDoorW.PrintMore
attribute [local go_sem] max2_int min2_int max_two min_two max_three min_three max_four min_four   -- for this text's walks alone
set_option linter.unusedVariables false
set_option linter.unusedSimpArgs false

/-! ### place_Host: function 33 -/
mutual
def place_Host.j0 : Nat → ByteArray → ByteArray → Int → Bool → Option (ByteArray × Int)
 | 0, _, _, _, _ => none
 | k + 1, x4, x5, x7, x45 => if x45 = true then (some ((⟨#[]⟩ : ByteArray), 25)) else ((sign_Lower.f x4).bind fun t140 => (if x5.toList = ([] : List UInt8) then (place_Host.j1 k t140 x5 true) else (place_Host.j1 k t140 x5 (x7 == 80))))
def place_Host.j1 : Nat → ByteArray → ByteArray → Bool → Option (ByteArray × Int)
 | 0, _, _, _ => none
 | k + 1, x4, x5, x53 => if x53 = true then (some (x4, 0)) else ((strings_TrimLeft.f x5 (⟨#[48]⟩ : ByteArray)).bind fun t141 => (if t141.toList = ([] : List UInt8) then (if x4.size + 1 ≤ 9223372036854775807 then (if (x4 ++ (⟨#[58]⟩ : ByteArray)).size + 1 ≤ 9223372036854775807 then (some ((x4 ++ (⟨#[58]⟩ : ByteArray)) ++ (⟨#[48]⟩ : ByteArray), 0)) else (none)) else (none)) else (if x4.size + 1 ≤ 9223372036854775807 then (if (x4 ++ (⟨#[58]⟩ : ByteArray)).size + t141.size ≤ 9223372036854775807 then (some ((x4 ++ (⟨#[58]⟩ : ByteArray)) ++ t141, 0)) else (none)) else (none))))
end
def place_Host.f (k : Nat) (a0 : ByteArray) : Option (ByteArray × Int) := (strings_Cut.f a0 (⟨#[58]⟩ : ByteArray)).bind fun bt131 => ((sign_Number.f k bt131.2.1).bind fun bt134 => (if bt131.1.toList = ([] : List UInt8) then (place_Host.j0 k bt131.1 bt131.2.1 bt134.1 true) else (if (bt131.1.size : Int) > 40 then (place_Host.j0 k bt131.1 bt131.2.1 bt134.1 true) else ((place_only.f k bt131.1 (([45, 46] : List Int))).bind fun t139 => (if t139 = true then (if (bt131.2.1.size : Int) > 5 then (place_Host.j0 k bt131.1 bt131.2.1 bt134.1 true) else (if bt131.2.1.toList = ([] : List UInt8) then (place_Host.j0 k bt131.1 bt131.2.1 bt134.1 false) else (place_Host.j0 k bt131.1 bt131.2.1 bt134.1 (!bt134.2)))) else (place_Host.j0 k bt131.1 bt131.2.1 bt134.1 true))))))
theorem place_Host.mono_l : ∀ k, (∀ y0 y1 y2 y3, LeO (place_Host.j0 k y0 y1 y2 y3) (place_Host.j0 (k + 1) y0 y1 y2 y3)) ∧ (∀ y0 y1 y2, LeO (place_Host.j1 k y0 y1 y2) (place_Host.j1 (k + 1) y0 y1 y2))
 | 0 => ⟨fun _ _ _ _ r h => by simp [place_Host.j0] at h, fun _ _ _ r h => by simp [place_Host.j1] at h⟩
 | k + 1 => by
  obtain ⟨ih0, ih1⟩ := place_Host.mono_l k
  refine ⟨?_, ?_⟩
  ·
   intro y0 y1 y2 y3
   unfold place_Host.j0
   repeat' (with_reducible first | exact ih0 _ _ _ _ | exact ih1 _ _ _ | exact place_only.mono _ _ _ | exact sign_Number.mono _ _ | exact lR_ | refine LeO.ite ?_ ?_ | refine LeO.bind ?_ (fun _ => ?_))
  ·
   intro y0 y1 y2
   unfold place_Host.j1
   repeat' (with_reducible first | exact ih0 _ _ _ _ | exact ih1 _ _ _ | exact place_only.mono _ _ _ | exact sign_Number.mono _ _ | exact lR_ | refine LeO.ite ?_ ?_ | refine LeO.bind ?_ (fun _ => ?_))
theorem place_Host.mono : ∀ a0 k, LeO (place_Host.f k a0) (place_Host.f (k + 1) a0) := by
 intro a0 k
 obtain ⟨ih0, ih1⟩ := place_Host.mono_l k
 unfold place_Host.f
 repeat' (with_reducible first | exact ih0 _ _ _ _ | exact ih1 _ _ _ | exact place_only.mono _ _ _ | exact sign_Number.mono _ _ | exact lR_ | refine LeO.ite ?_ ?_ | refine LeO.bind ?_ (fun _ => ?_))
set_option maxHeartbeats 8000000 in
set_option maxRecDepth 100000 in
theorem place_Host.calls (k : Nat) (a0 : ByteArray) (r1 : ByteArray) (r2 : Int) (w : World) (h : place_Host.f k a0 = some (r1, r2)) :
  Calls Tryd.prog 33 #[.string a0] w fun e w' => e = .returned (.tuple #[.string r1, .int .i64 r2]) ∧ Below w.heap.size w w' := by
 have HB := Aside0.mk (Below.refl w.heap.size w)
 have H : ((strings_Cut.f a0 (⟨#[58]⟩ : ByteArray)).bind fun bt131 => ((sign_Number.f k bt131.2.1).bind fun bt134 => (if bt131.1.toList = ([] : List UInt8) then (place_Host.j0 k bt131.1 bt131.2.1 bt134.1 true) else (if (bt131.1.size : Int) > 40 then (place_Host.j0 k bt131.1 bt131.2.1 bt134.1 true) else ((place_only.f k bt131.1 (([45, 46] : List Int))).bind fun t139 => (if t139 = true then (if (bt131.2.1.size : Int) > 5 then (place_Host.j0 k bt131.1 bt131.2.1 bt134.1 true) else (if bt131.2.1.toList = ([] : List UInt8) then (place_Host.j0 k bt131.1 bt131.2.1 bt134.1 false) else (place_Host.j0 k bt131.1 bt131.2.1 bt134.1 (!bt134.2)))) else (place_Host.j0 k bt131.1 bt131.2.1 bt134.1 true))))))) = some (r1, r2) := h
 clear h
 obtain ⟨⟨t131, t132, t133⟩, A2, H⟩ := bS_ H
 try dsimp only at H
 obtain ⟨⟨t134, t135⟩, A3, H⟩ := bS_ H
 try dsimp only at H
 have HC4 := Aside0.mk H
 clear H
 go_enter Tryd.func33, Tryd.ntmps33
 go_upto_region 3 with (first | ((with_reducible refine gate_callee (f := 40) rfl ?_); refine goesL_ (some 11) rfl rfl Tryd.func40 (by kernel_rfl) rfl #[.string a0, .string (⟨#[58]⟩ : ByteArray)] rfl T1_ ?_; (with_reducible refine (strings_Cut.calls a0 (⟨#[58]⟩ : ByteArray) t131 t132 t133 _ A2.out).mono ?_); rintro e w5 ⟨rfl, hb⟩; refine ⟨_, rfl, ?_⟩; replace HB := y1_ hb; (try clear hb)) | ((with_reducible refine gate_callee (f := 41) rfl ?_); refine goesL_ (some 17) rfl rfl Tryd.func41 (by kernel_rfl) rfl #[.string t132] rfl T1_ ?_; (with_reducible refine (sign_Number.calls k t132 t134 t135 _ A3.out).mono ?_); rintro e w6 ⟨rfl, hb⟩; refine ⟨_, rfl, ?_⟩; replace HB := y1_ hb; (try clear hb)))
 (try simp only [Act.put, sA_, sZ_, sS_])
 go_cut [45] (fun v45 wc => ∃ (kq : Nat) (x45_3 : Bool), v45 = .bool x45_3 ∧ Aside0 (place_Host.j0 kq t131 t132 t134 x45_3 = some (r1, r2)) ∧ Aside0 (kq ≤ k) ∧ Aside0 (Below w.heap.size w wc))
 case first =>
  have H := HC4.out
  clear HC4
  by_cases c7 : t131.toList = ([] : List UInt8)
  ·
   rw [if_pos c7] at H
   have c7b0 : (t131.toList == ([] : List UInt8)) = true := beq_iff_eq.mpr c7
   have c7b1 : (t131.toList != ([] : List UInt8)) = false := bne_eq_false_iff_eq.mpr c7
   have c7b4 : (t131.toList).isEmpty = true := by have h_ := c7b1; revert h_; generalize t131.toList = l_; cases l_ <;> simp
   clear c7
   (first | rw [c7b4] | rw [c7b0] | (simp only [i64_w, i32_w]; rw [c7b0]) | skip)
   have H' := Aside0.mk H
   clear H
   go_wp2
   go_meet
   case rel => exact ⟨_, (true), E3_, H', ⟨by first | omega | exact Nat.le_refl _⟩, ⟨W1_⟩⟩
  ·
   rw [if_neg c7] at H
   have c7b0 : (t131.toList == ([] : List UInt8)) = false := beq_eq_false_iff_ne.mpr c7
   have c7b1 : (t131.toList != ([] : List UInt8)) = true := bne_iff_ne.mpr c7
   have c7b4 : (t131.toList).isEmpty = false := by have h_ := c7b1; revert h_; generalize t131.toList = l_; cases l_ <;> simp
   (first | rw [c7b4] | rw [c7b0] | (simp only [i64_w, i32_w]; rw [c7b0]) | skip)
   by_cases c8 : (t131.size : Int) > 40
   ·
    rw [if_pos c8] at H
    have c8b0 : decide (40 < (t131.size : Int)) = true := decide_eq_true c8
    have c8b1 : decide (40 < t131.size) = true := decide_eq_true (by omega)
    clear c8
    have H' := Aside0.mk H
    clear H
    go_wp2
    go_meet
    case rel => exact ⟨_, (true), E3_, H', ⟨by first | omega | exact Nat.le_refl _⟩, ⟨W1_⟩⟩
   ·
    rw [if_neg c8] at H
    have c8b0 : decide (40 < (t131.size : Int)) = false := decide_eq_false c8
    have c8b1 : decide (40 < t131.size) = false := decide_eq_false (by omega)
    clear c8
    obtain ⟨y136, hy136⟩ : ∃ y_ : List Int, y_ = (([45, 46] : List Int)) := ⟨_, rfl⟩
    replace H : ((place_only.f k t131 y136).bind fun t139 => (if t139 = true then (if (t132.size : Int) > 5 then (place_Host.j0 k t131 t132 t134 true) else (if t132.toList = ([] : List UInt8) then (place_Host.j0 k t131 t132 t134 false) else (place_Host.j0 k t131 t132 t134 (!t135)))) else (place_Host.j0 k t131 t132 t134 true))) = some (r1, r2) := by first | (rw [hy136]; with_reducible exact H) | (have H2_ := (Option.bind_some _ _).symm.trans H; rw [hy136]; with_reducible exact H2_) | (have H2_ := (Option.bind_some _ _).symm.trans H; with_reducible exact H2_) | with_reducible exact H | (rw [hy136]; exact H) | exact H
    have Ny136 := Aside0.mk hy136
    clear hy136
    obtain ⟨t139, A9, H⟩ := bS_ H
    try dsimp only at H
    by_cases c10 : t139 = true
    ·
     subst c10
     rw [if_pos rfl] at H
     by_cases c11 : (t132.size : Int) > 5
     ·
      rw [if_pos c11] at H
      have c11b0 : decide (5 < (t132.size : Int)) = true := decide_eq_true c11
      have c11b1 : decide (5 < t132.size) = true := decide_eq_true (by omega)
      clear c11
      have H' := Aside0.mk H
      clear H
      go_wp2_with (first | ((with_reducible refine gate_dst (N := 29) rfl ?_); (try (refine gate_guard (by rfl) ?_; dsimp only)); refine Kd.R_lit (Kd.int .u8) _ 5 ?hg (N := 29) ?hd (xs := ([45, 46] : List Int)) (inner := [.int .u8 45, .int .u8 46]) (ok := fun _ => True) (okp := fun _ => True) ?hr ?hp (fun _ hk => hk) trivial (Below.refl _ _) (Nat.le_refl _) (by simp) ?_; (case hd | hg => rfl); (case hr => exact S1_); (case hp => exact (Reps.one (show Kd.M (Kd.int .u8) _ _ _ 45 [.int .u8 45] from rfl) (Reps.one (show Kd.M (Kd.int .u8) _ _ _ 46 [.int .u8 46] from rfl) (Reps.none _ _)))); intro v137 w12 ho13 hb hg_ hnew_; clear hg_ hnew_; (first | rw [← Ny136.out] at ho13 | (simp only [Int.reduceToNat] at ho13; rw [← Ny136.out] at ho13)); have HO138 := Aside0.mk (Kd.R_lower ho13 (below_size W1_)); replace HB := y1_ hb; clear hb ho13; obtain ⟨Ao14, co14, eo14⟩ := Kd.R_slice HO138.out; subst eo14) | (go_at_call 42; (with_reducible refine (place_only.calls k t131 _ _ y136 true _ ?side1 ?side2 A9.out).mono ?_); (case side1 => exact C1_ ((Kd.R_reads' HO138.out).2.2)); (case side2 => exact (Kd.R_reads' HO138.out).2.1); rintro e w15 ⟨rfl, hb⟩; replace HO138 := Aside0.mk (Kd.R_below (R1_ HO138.out) hb); replace HB := y1_ hb; (try clear hb)))
      go_meet
      case rel => exact ⟨_, (true), E3_, H', ⟨by first | omega | exact Nat.le_refl _⟩, ⟨W1_⟩⟩
     ·
      rw [if_neg c11] at H
      have c11b0 : decide (5 < (t132.size : Int)) = false := decide_eq_false c11
      have c11b1 : decide (5 < t132.size) = false := decide_eq_false (by omega)
      clear c11
      by_cases c16 : t132.toList = ([] : List UInt8)
      ·
       rw [if_pos c16] at H
       have c16b0 : (t132.toList == ([] : List UInt8)) = true := beq_iff_eq.mpr c16
       have c16b1 : (t132.toList != ([] : List UInt8)) = false := bne_eq_false_iff_eq.mpr c16
       have c16b4 : (t132.toList).isEmpty = true := by have h_ := c16b1; revert h_; generalize t132.toList = l_; cases l_ <;> simp
       clear c16
       have H' := Aside0.mk H
       clear H
       go_wp2_with (first | ((with_reducible refine gate_dst (N := 29) rfl ?_); (try (refine gate_guard (by rfl) ?_; dsimp only)); refine Kd.R_lit (Kd.int .u8) _ 5 ?hg (N := 29) ?hd (xs := ([45, 46] : List Int)) (inner := [.int .u8 45, .int .u8 46]) (ok := fun _ => True) (okp := fun _ => True) ?hr ?hp (fun _ hk => hk) trivial (Below.refl _ _) (Nat.le_refl _) (by simp) ?_; (case hd | hg => rfl); (case hr => exact S1_); (case hp => exact (Reps.one (show Kd.M (Kd.int .u8) _ _ _ 45 [.int .u8 45] from rfl) (Reps.one (show Kd.M (Kd.int .u8) _ _ _ 46 [.int .u8 46] from rfl) (Reps.none _ _)))); intro v137 w17 ho18 hb hg_ hnew_; clear hg_ hnew_; (first | rw [← Ny136.out] at ho18 | (simp only [Int.reduceToNat] at ho18; rw [← Ny136.out] at ho18)); have HO138 := Aside0.mk (Kd.R_lower ho18 (below_size W1_)); replace HB := y1_ hb; clear hb ho18; obtain ⟨Ao19, co19, eo19⟩ := Kd.R_slice HO138.out; subst eo19) | (go_at_call 42; (with_reducible refine (place_only.calls k t131 _ _ y136 true _ ?side1 ?side2 A9.out).mono ?_); (case side1 => exact C1_ ((Kd.R_reads' HO138.out).2.2)); (case side2 => exact (Kd.R_reads' HO138.out).2.1); rintro e w20 ⟨rfl, hb⟩; replace HO138 := Aside0.mk (Kd.R_below (R1_ HO138.out) hb); replace HB := y1_ hb; (try clear hb)))
       go_meet
       case rel => exact ⟨_, (false), E3_, H', ⟨by first | omega | exact Nat.le_refl _⟩, ⟨W1_⟩⟩
      ·
       rw [if_neg c16] at H
       have c16b0 : (t132.toList == ([] : List UInt8)) = false := beq_eq_false_iff_ne.mpr c16
       have c16b1 : (t132.toList != ([] : List UInt8)) = true := bne_iff_ne.mpr c16
       have c16b4 : (t132.toList).isEmpty = false := by have h_ := c16b1; revert h_; generalize t132.toList = l_; cases l_ <;> simp
       have H' := Aside0.mk H
       clear H
       go_wp2_with (first | ((with_reducible refine gate_dst (N := 29) rfl ?_); (try (refine gate_guard (by rfl) ?_; dsimp only)); refine Kd.R_lit (Kd.int .u8) _ 5 ?hg (N := 29) ?hd (xs := ([45, 46] : List Int)) (inner := [.int .u8 45, .int .u8 46]) (ok := fun _ => True) (okp := fun _ => True) ?hr ?hp (fun _ hk => hk) trivial (Below.refl _ _) (Nat.le_refl _) (by simp) ?_; (case hd | hg => rfl); (case hr => exact S1_); (case hp => exact (Reps.one (show Kd.M (Kd.int .u8) _ _ _ 45 [.int .u8 45] from rfl) (Reps.one (show Kd.M (Kd.int .u8) _ _ _ 46 [.int .u8 46] from rfl) (Reps.none _ _)))); intro v137 w21 ho22 hb hg_ hnew_; clear hg_ hnew_; (first | rw [← Ny136.out] at ho22 | (simp only [Int.reduceToNat] at ho22; rw [← Ny136.out] at ho22)); have HO138 := Aside0.mk (Kd.R_lower ho22 (below_size W1_)); replace HB := y1_ hb; clear hb ho22; obtain ⟨Ao23, co23, eo23⟩ := Kd.R_slice HO138.out; subst eo23) | (go_at_call 42; (with_reducible refine (place_only.calls k t131 _ _ y136 true _ ?side1 ?side2 A9.out).mono ?_); (case side1 => exact C1_ ((Kd.R_reads' HO138.out).2.2)); (case side2 => exact (Kd.R_reads' HO138.out).2.1); rintro e w24 ⟨rfl, hb⟩; replace HO138 := Aside0.mk (Kd.R_below (R1_ HO138.out) hb); replace HB := y1_ hb; (try clear hb)))
       go_meet
       case rel => exact ⟨_, (!t135), E3_, H', ⟨by first | omega | exact Nat.le_refl _⟩, ⟨W1_⟩⟩
    ·
     replace c10 := Bool.eq_false_iff.mpr c10
     subst c10
     rw [if_neg (show ¬ (false = true) by decide)] at H
     have H' := Aside0.mk H
     clear H
     go_wp2_with (first | ((with_reducible refine gate_dst (N := 29) rfl ?_); (try (refine gate_guard (by rfl) ?_; dsimp only)); refine Kd.R_lit (Kd.int .u8) _ 5 ?hg (N := 29) ?hd (xs := ([45, 46] : List Int)) (inner := [.int .u8 45, .int .u8 46]) (ok := fun _ => True) (okp := fun _ => True) ?hr ?hp (fun _ hk => hk) trivial (Below.refl _ _) (Nat.le_refl _) (by simp) ?_; (case hd | hg => rfl); (case hr => exact S1_); (case hp => exact (Reps.one (show Kd.M (Kd.int .u8) _ _ _ 45 [.int .u8 45] from rfl) (Reps.one (show Kd.M (Kd.int .u8) _ _ _ 46 [.int .u8 46] from rfl) (Reps.none _ _)))); intro v137 w25 ho26 hb hg_ hnew_; clear hg_ hnew_; (first | rw [← Ny136.out] at ho26 | (simp only [Int.reduceToNat] at ho26; rw [← Ny136.out] at ho26)); have HO138 := Aside0.mk (Kd.R_lower ho26 (below_size W1_)); replace HB := y1_ hb; clear hb ho26; obtain ⟨Ao27, co27, eo27⟩ := Kd.R_slice HO138.out; subst eo27) | (go_at_call 42; (with_reducible refine (place_only.calls k t131 _ _ y136 false _ ?side1 ?side2 A9.out).mono ?_); (case side1 => exact C1_ ((Kd.R_reads' HO138.out).2.2)); (case side2 => exact (Kd.R_reads' HO138.out).2.1); rintro e w28 ⟨rfl, hb⟩; replace HO138 := Aside0.mk (Kd.R_below (R1_ HO138.out) hb); replace HB := y1_ hb; (try clear hb)))
     go_meet
     case rel => exact ⟨_, (true), E3_, H', ⟨by first | omega | exact Nat.le_refl _⟩, ⟨W1_⟩⟩
 case rest =>
  clear HC4
  (try clear c7); (try clear c7b0); (try clear c7b1); (try clear c8); (try clear c8b0); (try clear c8b1); (try clear c10); (try clear c11); (try clear c11b0); (try clear c11b1); (try clear c16); (try clear c16b0); (try clear c16b1)
  obtain ⟨kq, x45_3, rfl, HA, HJ3, HB⟩ := hcut
  cases kq with
  | zero => exact absurd HA.out (by simp [place_Host.j0])
  | succ kj3 =>
   have H := HA.out
   clear HA
   simp only [place_Host.j0] at H
   by_cases c29 : x45_3 = true
   ·
    subst c29
    rw [if_pos rfl] at H
    simp only [Option.some.injEq, Prod.mk.injEq] at H
    obtain ⟨rfl, rfl⟩ := H
    go_wp2
    go_ret2
    exact ⟨E1_, W1_⟩
   ·
    replace c29 := Bool.eq_false_iff.mpr c29
    subst c29
    rw [if_neg (show ¬ (false = true) by decide)] at H
    obtain ⟨t140, A30, H⟩ := bS_ H
    try dsimp only at H
    have HC31 := Aside0.mk H
    clear H
    go_upto_region 6 with (first | ((with_reducible refine gate_callee (f := 43) rfl ?_); refine goesL_ (some 47) rfl rfl Tryd.func43 (by kernel_rfl) rfl #[.string t131] rfl T1_ ?_; (with_reducible refine (sign_Lower.calls t131 t140 _ A30.out).mono ?_); rintro e w32 ⟨rfl, hb⟩; refine ⟨_, rfl, ?_⟩; replace HB := y1_ hb; (try clear hb)))
    (try simp only [Act.put, sA_, sZ_, sS_])
    go_cut [53] (fun v53 wc => ∃ (kq : Nat) (x53_30 : Bool), v53 = .bool x53_30 ∧ Aside0 (place_Host.j1 kq t140 t132 x53_30 = some (r1, r2)) ∧ Aside0 (kq ≤ kj3) ∧ Aside0 (Below w.heap.size w wc))
    case first =>
     have H := HC31.out
     clear HC31
     by_cases c33 : t132.toList = ([] : List UInt8)
     ·
      rw [if_pos c33] at H
      have c33b0 : (t132.toList == ([] : List UInt8)) = true := beq_iff_eq.mpr c33
      have c33b1 : (t132.toList != ([] : List UInt8)) = false := bne_eq_false_iff_eq.mpr c33
      have c33b4 : (t132.toList).isEmpty = true := by have h_ := c33b1; revert h_; generalize t132.toList = l_; cases l_ <;> simp
      clear c33
      (first | rw [c33b4] | rw [c33b0] | (simp only [i64_w, i32_w]; rw [c33b0]) | skip)
      have H' := Aside0.mk H
      clear H
      go_wp2
      go_meet
      case rel => exact ⟨_, (true), E3_, H', ⟨by have := HJ3.out; first | omega | exact Nat.le_refl _⟩, ⟨W1_⟩⟩
     ·
      rw [if_neg c33] at H
      have c33b0 : (t132.toList == ([] : List UInt8)) = false := beq_eq_false_iff_ne.mpr c33
      have c33b1 : (t132.toList != ([] : List UInt8)) = true := bne_iff_ne.mpr c33
      have c33b4 : (t132.toList).isEmpty = false := by have h_ := c33b1; revert h_; generalize t132.toList = l_; cases l_ <;> simp
      (first | rw [c33b4] | rw [c33b0] | (simp only [i64_w, i32_w]; rw [c33b0]) | skip)
      have H' := Aside0.mk H
      clear H
      go_wp2
      go_meet
      case rel => exact ⟨_, ((t134 == 80)), E3_, H', ⟨by have := HJ3.out; first | omega | exact Nat.le_refl _⟩, ⟨W1_⟩⟩
    case rest =>
     clear HC31
     (try clear c7); (try clear c7b0); (try clear c7b1); (try clear c8); (try clear c8b0); (try clear c8b1); (try clear c10); (try clear c11); (try clear c11b0); (try clear c11b1); (try clear c16); (try clear c16b0); (try clear c16b1); (try clear c29); (try clear c33); (try clear c33b0); (try clear c33b1)
     obtain ⟨kq, x53_30, rfl, HA, HJ30, HB⟩ := hcut
     cases kq with
     | zero => exact absurd HA.out (by simp [place_Host.j1])
     | succ kj30 =>
      have H := HA.out
      clear HA
      simp only [place_Host.j1] at H
      by_cases c34 : x53_30 = true
      ·
       subst c34
       rw [if_pos rfl] at H
       simp only [Option.some.injEq, Prod.mk.injEq] at H
       obtain ⟨rfl, rfl⟩ := H
       go_wp2
       go_ret2
       exact ⟨E1_, W1_⟩
      ·
       replace c34 := Bool.eq_false_iff.mpr c34
       subst c34
       rw [if_neg (show ¬ (false = true) by decide)] at H
       obtain ⟨t141, A35, H⟩ := bS_ H
       try dsimp only at H
       by_cases c36 : t141.toList = ([] : List UInt8)
       ·
        rw [if_pos c36] at H
        have c36b0 : (t141.toList == ([] : List UInt8)) = true := beq_iff_eq.mpr c36
        have c36b1 : (t141.toList != ([] : List UInt8)) = false := bne_eq_false_iff_eq.mpr c36
        have c36b4 : (t141.toList).isEmpty = true := by have h_ := c36b1; revert h_; generalize t141.toList = l_; cases l_ <;> simp
        clear c36
        by_cases c37 : t140.size + 1 ≤ 9223372036854775807
        ·
         rw [if_pos c37] at H
         have c37b0 := eq_true c37
         have c37b1 : decide (t140.size + 1 ≤ 9223372036854775807) = true := decide_eq_true c37
         try have c37b2 : (9223372036854775807 < t140.size + 1) = False := eq_false (Nat.not_lt.2 c37)
         by_cases c38 : (t140 ++ (⟨#[58]⟩ : ByteArray)).size + 1 ≤ 9223372036854775807
         ·
          rw [if_pos c38] at H
          have c38b0 := eq_true c38
          have c38b1 : decide ((t140 ++ (⟨#[58]⟩ : ByteArray)).size + 1 ≤ 9223372036854775807) = true := decide_eq_true c38
          try have c38b2 : (9223372036854775807 < (t140 ++ (⟨#[58]⟩ : ByteArray)).size + 1) = False := eq_false (Nat.not_lt.2 c38)
          try have c38b3 : (9223372036854775807 < (t140).size + 1 + 1) = False := by have h_ := c38; (simp only [ByteArray.size_append] at h_); exact eq_false (Nat.not_lt.2 h_)
          simp only [Option.some.injEq, Prod.mk.injEq] at H
          obtain ⟨rfl, rfl⟩ := H
          go_wp2_with (first | ((with_reducible refine gate_callee (f := 44) rfl ?_); refine goesL_ (some 56) rfl rfl Tryd.func44 (by kernel_rfl) rfl #[.string t132, .string (⟨#[48]⟩ : ByteArray)] rfl T1_ ?_; (with_reducible refine (strings_TrimLeft.calls t132 (⟨#[48]⟩ : ByteArray) t141 _ A35.out).mono ?_); rintro e w39 ⟨rfl, hb⟩; refine ⟨_, rfl, ?_⟩; replace HB := y1_ hb; (try clear hb)))
          go_ret2
          exact ⟨E1_, W1_⟩
         ·
          rw [if_neg c38] at H
          exact absurd H (by simp)
        ·
         rw [if_neg c37] at H
         exact absurd H (by simp)
       ·
        rw [if_neg c36] at H
        have c36b0 : (t141.toList == ([] : List UInt8)) = false := beq_eq_false_iff_ne.mpr c36
        have c36b1 : (t141.toList != ([] : List UInt8)) = true := bne_iff_ne.mpr c36
        have c36b4 : (t141.toList).isEmpty = false := by have h_ := c36b1; revert h_; generalize t141.toList = l_; cases l_ <;> simp
        by_cases c40 : t140.size + 1 ≤ 9223372036854775807
        ·
         rw [if_pos c40] at H
         have c40b0 := eq_true c40
         have c40b1 : decide (t140.size + 1 ≤ 9223372036854775807) = true := decide_eq_true c40
         try have c40b2 : (9223372036854775807 < t140.size + 1) = False := eq_false (Nat.not_lt.2 c40)
         by_cases c41 : (t140 ++ (⟨#[58]⟩ : ByteArray)).size + t141.size ≤ 9223372036854775807
         ·
          rw [if_pos c41] at H
          have c41b0 := eq_true c41
          have c41b1 : decide ((t140 ++ (⟨#[58]⟩ : ByteArray)).size + t141.size ≤ 9223372036854775807) = true := decide_eq_true c41
          try have c41b2 : (9223372036854775807 < (t140 ++ (⟨#[58]⟩ : ByteArray)).size + t141.size) = False := eq_false (Nat.not_lt.2 c41)
          try have c41b3 : (9223372036854775807 < (t140).size + 1 + t141.size) = False := by have h_ := c41; (simp only [ByteArray.size_append] at h_); exact eq_false (Nat.not_lt.2 h_)
          simp only [Option.some.injEq, Prod.mk.injEq] at H
          obtain ⟨rfl, rfl⟩ := H
          go_wp2_with (first | ((with_reducible refine gate_callee (f := 44) rfl ?_); refine goesL_ (some 56) rfl rfl Tryd.func44 (by kernel_rfl) rfl #[.string t132, .string (⟨#[48]⟩ : ByteArray)] rfl T1_ ?_; (with_reducible refine (strings_TrimLeft.calls t132 (⟨#[48]⟩ : ByteArray) t141 _ A35.out).mono ?_); rintro e w42 ⟨rfl, hb⟩; refine ⟨_, rfl, ?_⟩; replace HB := y1_ hb; (try clear hb)))
          go_ret2
          exact ⟨E1_, W1_⟩
         ·
          rw [if_neg c41] at H
          exact absurd H (by simp)
        ·
         rw [if_neg c40] at H
         exact absurd H (by simp)

end Go.Proofs.YtfcifigemiafgaaDoor.PAll
