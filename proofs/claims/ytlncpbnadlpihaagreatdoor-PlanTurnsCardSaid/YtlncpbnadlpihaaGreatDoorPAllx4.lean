import Derived.Deep.Cut
import Derived.Deep.CutRange
import Derived.Deep.CutBlock
import Derived.Test.YtlncpbnadlpihaaGreatDoorPAllx0
import Derived.Test.YtlncpbnadlpihaaGreatDoorPAllx2
import Derived.Test.YtlncpbnadlpihaaGreatDoorPAllx3
namespace Go.Proofs.YtlncpbnadlpihaaGreatDoor.PAll
open Go.RowKit Go.Proofs.YtlncpbnadlpihaaGreatDoorW.PrintWords Go.Proofs.YtlncpbnadlpihaaGreatDoorW.PrintLast Go.Proofs.YtlncpbnadlpihaaGreatDoorW.PrintMore
attribute [local go_sem] max2_int min2_int max_two min_two max_three min_three max_four min_four   -- for this text's walks alone
set_option linter.unusedVariables false
set_option linter.unusedSimpArgs false

/-! ### place_Host: function 50 -/
mutual
def place_Host.j0 : Nat → ByteArray → ByteArray → Int → Bool → Option (ByteArray × Int)
 | 0, _, _, _, _ => none
 | k + 1, x4, x5, x7, x45 => if x45 = true then (some ((⟨#[]⟩ : ByteArray), 25)) else ((sign_Lower.f x4).bind fun t112 => (if x5.toList = ([] : List UInt8) then (place_Host.j1 k t112 x5 true) else (place_Host.j1 k t112 x5 (x7 == 80))))
def place_Host.j1 : Nat → ByteArray → ByteArray → Bool → Option (ByteArray × Int)
 | 0, _, _, _ => none
 | k + 1, x4, x5, x53 => if x53 = true then (some (x4, 0)) else ((strings_TrimLeft.f x5 (⟨#[48]⟩ : ByteArray)).bind fun t113 => (if t113.toList = ([] : List UInt8) then (if x4.size + 1 ≤ 9223372036854775807 then (if (x4 ++ (⟨#[58]⟩ : ByteArray)).size + 1 ≤ 9223372036854775807 then (some ((x4 ++ (⟨#[58]⟩ : ByteArray)) ++ (⟨#[48]⟩ : ByteArray), 0)) else (none)) else (none)) else (if x4.size + 1 ≤ 9223372036854775807 then (if (x4 ++ (⟨#[58]⟩ : ByteArray)).size + t113.size ≤ 9223372036854775807 then (some ((x4 ++ (⟨#[58]⟩ : ByteArray)) ++ t113, 0)) else (none)) else (none))))
end
def place_Host.f (k : Nat) (a0 : ByteArray) : Option (ByteArray × Int) := (strings_Cut.f a0 (⟨#[58]⟩ : ByteArray)).bind fun bt103 => ((sign_Number.f k bt103.2.1).bind fun bt106 => (if bt103.1.toList = ([] : List UInt8) then (place_Host.j0 k bt103.1 bt103.2.1 bt106.1 true) else (if (bt103.1.size : Int) > 40 then (place_Host.j0 k bt103.1 bt103.2.1 bt106.1 true) else ((place_only.f k bt103.1 (([45, 46] : List Int))).bind fun t111 => (if t111 = true then (if (bt103.2.1.size : Int) > 5 then (place_Host.j0 k bt103.1 bt103.2.1 bt106.1 true) else (if bt103.2.1.toList = ([] : List UInt8) then (place_Host.j0 k bt103.1 bt103.2.1 bt106.1 false) else (place_Host.j0 k bt103.1 bt103.2.1 bt106.1 (!bt106.2)))) else (place_Host.j0 k bt103.1 bt103.2.1 bt106.1 true))))))
theorem place_Host.mono_l : ∀ k, (∀ y0 y1 y2 y3, LeO (place_Host.j0 k y0 y1 y2 y3) (place_Host.j0 (k + 1) y0 y1 y2 y3)) ∧ (∀ y0 y1 y2, LeO (place_Host.j1 k y0 y1 y2) (place_Host.j1 (k + 1) y0 y1 y2))
 | 0 => ⟨fun _ _ _ _ r h => by simp [place_Host.j0] at h, fun _ _ _ r h => by simp [place_Host.j1] at h⟩
 | k + 1 => by
  obtain ⟨ih0, ih1⟩ := place_Host.mono_l k
  refine ⟨?_, ?_⟩
  ·
   intro y0 y1 y2 y3
   unfold place_Host.j0
   repeat' (with_reducible first | exact ih0 _ _ _ _ | exact ih1 _ _ _ | exact place_only.mono _ _ _ | exact sign_Number.mono _ _ | exact lR_ | refine LeO.ite ?_ ?_ | refine LeO.bind ?_ (fun _ => ?_))
  ·
   intro y0 y1 y2
   unfold place_Host.j1
   repeat' (with_reducible first | exact ih0 _ _ _ _ | exact ih1 _ _ _ | exact place_only.mono _ _ _ | exact sign_Number.mono _ _ | exact lR_ | refine LeO.ite ?_ ?_ | refine LeO.bind ?_ (fun _ => ?_))
theorem place_Host.mono : ∀ a0 k, LeO (place_Host.f k a0) (place_Host.f (k + 1) a0) := by
 intro a0 k
 obtain ⟨ih0, ih1⟩ := place_Host.mono_l k
 unfold place_Host.f
 repeat' (with_reducible first | exact ih0 _ _ _ _ | exact ih1 _ _ _ | exact place_only.mono _ _ _ | exact sign_Number.mono _ _ | exact lR_ | refine LeO.ite ?_ ?_ | refine LeO.bind ?_ (fun _ => ?_))
set_option maxHeartbeats 8000000 in
set_option maxRecDepth 100000 in
theorem place_Host.calls (k : Nat) (a0 : ByteArray) (r1 : ByteArray) (r2 : Int) (w : World) (h : place_Host.f k a0 = some (r1, r2)) :
  Calls Tryz.prog 50 #[.string a0] w fun e w' => e = .returned (.tuple #[.string r1, .int .i64 r2]) ∧ Below w.heap.size w w' := by
 have HB := Aside0.mk (Below.refl w.heap.size w)
 have H : ((strings_Cut.f a0 (⟨#[58]⟩ : ByteArray)).bind fun bt103 => ((sign_Number.f k bt103.2.1).bind fun bt106 => (if bt103.1.toList = ([] : List UInt8) then (place_Host.j0 k bt103.1 bt103.2.1 bt106.1 true) else (if (bt103.1.size : Int) > 40 then (place_Host.j0 k bt103.1 bt103.2.1 bt106.1 true) else ((place_only.f k bt103.1 (([45, 46] : List Int))).bind fun t111 => (if t111 = true then (if (bt103.2.1.size : Int) > 5 then (place_Host.j0 k bt103.1 bt103.2.1 bt106.1 true) else (if bt103.2.1.toList = ([] : List UInt8) then (place_Host.j0 k bt103.1 bt103.2.1 bt106.1 false) else (place_Host.j0 k bt103.1 bt103.2.1 bt106.1 (!bt106.2)))) else (place_Host.j0 k bt103.1 bt103.2.1 bt106.1 true))))))) = some (r1, r2) := h
 clear h
 obtain ⟨⟨t103, t104, t105⟩, A2, H⟩ := bS_ H
 try dsimp only at H
 obtain ⟨⟨t106, t107⟩, A3, H⟩ := bS_ H
 try dsimp only at H
 have HC4 := Aside0.mk H
 clear H
 go_enter Tryz.func50, Tryz.ntmps50
 go_upto_region 3 with (first | ((with_reducible refine gate_callee (f := 71) rfl ?_); refine goesL_ (some 11) rfl rfl Tryz.func71 (by kernel_rfl) rfl #[.string a0, .string (⟨#[58]⟩ : ByteArray)] rfl T1_ ?_; (with_reducible refine (strings_Cut.calls a0 (⟨#[58]⟩ : ByteArray) t103 t104 t105 _ A2.out).mono ?_); rintro e w5 ⟨rfl, hb⟩; refine ⟨_, rfl, ?_⟩; replace HB := y1_ hb; (try clear hb)) | ((with_reducible refine gate_callee (f := 72) rfl ?_); refine goesL_ (some 17) rfl rfl Tryz.func72 (by kernel_rfl) rfl #[.string t104] rfl T1_ ?_; (with_reducible refine (sign_Number.calls k t104 t106 t107 _ A3.out).mono ?_); rintro e w6 ⟨rfl, hb⟩; refine ⟨_, rfl, ?_⟩; replace HB := y1_ hb; (try clear hb)))
 (try simp only [Act.put, sA_, sZ_, sS_])
 go_cut [45] (fun v45 wc => ∃ (kq : Nat) (x45_3 : Bool), v45 = .bool x45_3 ∧ Aside0 (place_Host.j0 kq t103 t104 t106 x45_3 = some (r1, r2)) ∧ Aside0 (kq ≤ k) ∧ Aside0 (Below w.heap.size w wc))
 case first =>
  have H := HC4.out
  clear HC4
  by_cases c7 : t103.toList = ([] : List UInt8)
  ·
   rw [if_pos c7] at H
   have c7b0 : (t103.toList == ([] : List UInt8)) = true := beq_iff_eq.mpr c7
   have c7b1 : (t103.toList != ([] : List UInt8)) = false := bne_eq_false_iff_eq.mpr c7
   have c7b4 : (t103.toList).isEmpty = true := by have h_ := c7b1; revert h_; generalize t103.toList = l_; cases l_ <;> simp
   clear c7
   (first | rw [c7b4] | rw [c7b0] | (simp only [i64_w, i32_w]; rw [c7b0]) | skip)
   have H' := Aside0.mk H
   clear H
   go_wp2
   go_meet
   case rel => exact ⟨_, (true), E3_, H', ⟨by first | omega | exact Nat.le_refl _⟩, ⟨W1_⟩⟩
  ·
   rw [if_neg c7] at H
   have c7b0 : (t103.toList == ([] : List UInt8)) = false := beq_eq_false_iff_ne.mpr c7
   have c7b1 : (t103.toList != ([] : List UInt8)) = true := bne_iff_ne.mpr c7
   have c7b4 : (t103.toList).isEmpty = false := by have h_ := c7b1; revert h_; generalize t103.toList = l_; cases l_ <;> simp
   (first | rw [c7b4] | rw [c7b0] | (simp only [i64_w, i32_w]; rw [c7b0]) | skip)
   by_cases c8 : (t103.size : Int) > 40
   ·
    rw [if_pos c8] at H
    have c8b0 : decide (40 < (t103.size : Int)) = true := decide_eq_true c8
    have c8b1 : decide (40 < t103.size) = true := decide_eq_true (by omega)
    clear c8
    have H' := Aside0.mk H
    clear H
    go_wp2
    go_meet
    case rel => exact ⟨_, (true), E3_, H', ⟨by first | omega | exact Nat.le_refl _⟩, ⟨W1_⟩⟩
   ·
    rw [if_neg c8] at H
    have c8b0 : decide (40 < (t103.size : Int)) = false := decide_eq_false c8
    have c8b1 : decide (40 < t103.size) = false := decide_eq_false (by omega)
    clear c8
    obtain ⟨y108, hy108⟩ : ∃ y_ : List Int, y_ = (([45, 46] : List Int)) := ⟨_, rfl⟩
    replace H : ((place_only.f k t103 y108).bind fun t111 => (if t111 = true then (if (t104.size : Int) > 5 then (place_Host.j0 k t103 t104 t106 true) else (if t104.toList = ([] : List UInt8) then (place_Host.j0 k t103 t104 t106 false) else (place_Host.j0 k t103 t104 t106 (!t107)))) else (place_Host.j0 k t103 t104 t106 true))) = some (r1, r2) := by first | (rw [hy108]; with_reducible exact H) | (have H2_ := (Option.bind_some _ _).symm.trans H; rw [hy108]; with_reducible exact H2_) | (have H2_ := (Option.bind_some _ _).symm.trans H; with_reducible exact H2_) | with_reducible exact H | (rw [hy108]; exact H) | exact H
    have Ny108 := Aside0.mk hy108
    clear hy108
    obtain ⟨t111, A9, H⟩ := bS_ H
    try dsimp only at H
    by_cases c10 : t111 = true
    ·
     subst c10
     rw [if_pos rfl] at H
     by_cases c11 : (t104.size : Int) > 5
     ·
      rw [if_pos c11] at H
      have c11b0 : decide (5 < (t104.size : Int)) = true := decide_eq_true c11
      have c11b1 : decide (5 < t104.size) = true := decide_eq_true (by omega)
      clear c11
      have H' := Aside0.mk H
      clear H
      go_wp2_with (first | ((with_reducible refine gate_dst (N := 29) rfl ?_); (try (refine gate_guard (by rfl) ?_; dsimp only)); refine Kd.R_lit (Kd.int .u8) _ 5 ?hg (N := 29) ?hd (xs := ([45, 46] : List Int)) (inner := [.int .u8 45, .int .u8 46]) (ok := fun _ => True) (okp := fun _ => True) ?hr ?hp (fun _ hk => hk) trivial (Below.refl _ _) (Nat.le_refl _) (by simp) ?_; (case hd | hg => rfl); (case hr => exact S1_); (case hp => exact (Reps.one (show Kd.M (Kd.int .u8) _ _ _ 45 [.int .u8 45] from rfl) (Reps.one (show Kd.M (Kd.int .u8) _ _ _ 46 [.int .u8 46] from rfl) (Reps.none _ _)))); intro v109 w12 ho13 hb hg_ hnew_; clear hg_ hnew_; (first | rw [← Ny108.out] at ho13 | (simp only [Int.reduceToNat] at ho13; rw [← Ny108.out] at ho13)); have HO110 := Aside0.mk (Kd.R_lower ho13 (below_size W1_)); replace HB := y1_ hb; clear hb ho13; obtain ⟨Ao14, co14, eo14⟩ := Kd.R_slice HO110.out; subst eo14) | (go_at_call 73; (with_reducible refine (place_only.calls k t103 _ _ y108 true _ ?side1 ?side2 A9.out).mono ?_); (case side1 => exact C1_ ((Kd.R_reads' HO110.out).2.2)); (case side2 => exact (Kd.R_reads' HO110.out).2.1); rintro e w15 ⟨rfl, hb⟩; replace HO110 := Aside0.mk (Kd.R_below (R1_ HO110.out) hb); replace HB := y1_ hb; (try clear hb)))
      go_meet
      case rel => exact ⟨_, (true), E3_, H', ⟨by first | omega | exact Nat.le_refl _⟩, ⟨W1_⟩⟩
     ·
      rw [if_neg c11] at H
      have c11b0 : decide (5 < (t104.size : Int)) = false := decide_eq_false c11
      have c11b1 : decide (5 < t104.size) = false := decide_eq_false (by omega)
      clear c11
      by_cases c16 : t104.toList = ([] : List UInt8)
      ·
       rw [if_pos c16] at H
       have c16b0 : (t104.toList == ([] : List UInt8)) = true := beq_iff_eq.mpr c16
       have c16b1 : (t104.toList != ([] : List UInt8)) = false := bne_eq_false_iff_eq.mpr c16
       have c16b4 : (t104.toList).isEmpty = true := by have h_ := c16b1; revert h_; generalize t104.toList = l_; cases l_ <;> simp
       clear c16
       have H' := Aside0.mk H
       clear H
       go_wp2_with (first | ((with_reducible refine gate_dst (N := 29) rfl ?_); (try (refine gate_guard (by rfl) ?_; dsimp only)); refine Kd.R_lit (Kd.int .u8) _ 5 ?hg (N := 29) ?hd (xs := ([45, 46] : List Int)) (inner := [.int .u8 45, .int .u8 46]) (ok := fun _ => True) (okp := fun _ => True) ?hr ?hp (fun _ hk => hk) trivial (Below.refl _ _) (Nat.le_refl _) (by simp) ?_; (case hd | hg => rfl); (case hr => exact S1_); (case hp => exact (Reps.one (show Kd.M (Kd.int .u8) _ _ _ 45 [.int .u8 45] from rfl) (Reps.one (show Kd.M (Kd.int .u8) _ _ _ 46 [.int .u8 46] from rfl) (Reps.none _ _)))); intro v109 w17 ho18 hb hg_ hnew_; clear hg_ hnew_; (first | rw [← Ny108.out] at ho18 | (simp only [Int.reduceToNat] at ho18; rw [← Ny108.out] at ho18)); have HO110 := Aside0.mk (Kd.R_lower ho18 (below_size W1_)); replace HB := y1_ hb; clear hb ho18; obtain ⟨Ao19, co19, eo19⟩ := Kd.R_slice HO110.out; subst eo19) | (go_at_call 73; (with_reducible refine (place_only.calls k t103 _ _ y108 true _ ?side1 ?side2 A9.out).mono ?_); (case side1 => exact C1_ ((Kd.R_reads' HO110.out).2.2)); (case side2 => exact (Kd.R_reads' HO110.out).2.1); rintro e w20 ⟨rfl, hb⟩; replace HO110 := Aside0.mk (Kd.R_below (R1_ HO110.out) hb); replace HB := y1_ hb; (try clear hb)))
       go_meet
       case rel => exact ⟨_, (false), E3_, H', ⟨by first | omega | exact Nat.le_refl _⟩, ⟨W1_⟩⟩
      ·
       rw [if_neg c16] at H
       have c16b0 : (t104.toList == ([] : List UInt8)) = false := beq_eq_false_iff_ne.mpr c16
       have c16b1 : (t104.toList != ([] : List UInt8)) = true := bne_iff_ne.mpr c16
       have c16b4 : (t104.toList).isEmpty = false := by have h_ := c16b1; revert h_; generalize t104.toList = l_; cases l_ <;> simp
       have H' := Aside0.mk H
       clear H
       go_wp2_with (first | ((with_reducible refine gate_dst (N := 29) rfl ?_); (try (refine gate_guard (by rfl) ?_; dsimp only)); refine Kd.R_lit (Kd.int .u8) _ 5 ?hg (N := 29) ?hd (xs := ([45, 46] : List Int)) (inner := [.int .u8 45, .int .u8 46]) (ok := fun _ => True) (okp := fun _ => True) ?hr ?hp (fun _ hk => hk) trivial (Below.refl _ _) (Nat.le_refl _) (by simp) ?_; (case hd | hg => rfl); (case hr => exact S1_); (case hp => exact (Reps.one (show Kd.M (Kd.int .u8) _ _ _ 45 [.int .u8 45] from rfl) (Reps.one (show Kd.M (Kd.int .u8) _ _ _ 46 [.int .u8 46] from rfl) (Reps.none _ _)))); intro v109 w21 ho22 hb hg_ hnew_; clear hg_ hnew_; (first | rw [← Ny108.out] at ho22 | (simp only [Int.reduceToNat] at ho22; rw [← Ny108.out] at ho22)); have HO110 := Aside0.mk (Kd.R_lower ho22 (below_size W1_)); replace HB := y1_ hb; clear hb ho22; obtain ⟨Ao23, co23, eo23⟩ := Kd.R_slice HO110.out; subst eo23) | (go_at_call 73; (with_reducible refine (place_only.calls k t103 _ _ y108 true _ ?side1 ?side2 A9.out).mono ?_); (case side1 => exact C1_ ((Kd.R_reads' HO110.out).2.2)); (case side2 => exact (Kd.R_reads' HO110.out).2.1); rintro e w24 ⟨rfl, hb⟩; replace HO110 := Aside0.mk (Kd.R_below (R1_ HO110.out) hb); replace HB := y1_ hb; (try clear hb)))
       go_meet
       case rel => exact ⟨_, (!t107), E3_, H', ⟨by first | omega | exact Nat.le_refl _⟩, ⟨W1_⟩⟩
    ·
     replace c10 := Bool.eq_false_iff.mpr c10
     subst c10
     rw [if_neg (show ¬ (false = true) by decide)] at H
     have H' := Aside0.mk H
     clear H
     go_wp2_with (first | ((with_reducible refine gate_dst (N := 29) rfl ?_); (try (refine gate_guard (by rfl) ?_; dsimp only)); refine Kd.R_lit (Kd.int .u8) _ 5 ?hg (N := 29) ?hd (xs := ([45, 46] : List Int)) (inner := [.int .u8 45, .int .u8 46]) (ok := fun _ => True) (okp := fun _ => True) ?hr ?hp (fun _ hk => hk) trivial (Below.refl _ _) (Nat.le_refl _) (by simp) ?_; (case hd | hg => rfl); (case hr => exact S1_); (case hp => exact (Reps.one (show Kd.M (Kd.int .u8) _ _ _ 45 [.int .u8 45] from rfl) (Reps.one (show Kd.M (Kd.int .u8) _ _ _ 46 [.int .u8 46] from rfl) (Reps.none _ _)))); intro v109 w25 ho26 hb hg_ hnew_; clear hg_ hnew_; (first | rw [← Ny108.out] at ho26 | (simp only [Int.reduceToNat] at ho26; rw [← Ny108.out] at ho26)); have HO110 := Aside0.mk (Kd.R_lower ho26 (below_size W1_)); replace HB := y1_ hb; clear hb ho26; obtain ⟨Ao27, co27, eo27⟩ := Kd.R_slice HO110.out; subst eo27) | (go_at_call 73; (with_reducible refine (place_only.calls k t103 _ _ y108 false _ ?side1 ?side2 A9.out).mono ?_); (case side1 => exact C1_ ((Kd.R_reads' HO110.out).2.2)); (case side2 => exact (Kd.R_reads' HO110.out).2.1); rintro e w28 ⟨rfl, hb⟩; replace HO110 := Aside0.mk (Kd.R_below (R1_ HO110.out) hb); replace HB := y1_ hb; (try clear hb)))
     go_meet
     case rel => exact ⟨_, (true), E3_, H', ⟨by first | omega | exact Nat.le_refl _⟩, ⟨W1_⟩⟩
 case rest =>
  clear HC4
  (try clear c7); (try clear c7b0); (try clear c7b1); (try clear c8); (try clear c8b0); (try clear c8b1); (try clear c10); (try clear c11); (try clear c11b0); (try clear c11b1); (try clear c16); (try clear c16b0); (try clear c16b1)
  obtain ⟨kq, x45_3, rfl, HA, HJ3, HB⟩ := hcut
  cases kq with
  | zero => exact absurd HA.out (by simp [place_Host.j0])
  | succ kj3 =>
   have H := HA.out
   clear HA
   simp only [place_Host.j0] at H
   by_cases c29 : x45_3 = true
   ·
    subst c29
    rw [if_pos rfl] at H
    simp only [Option.some.injEq, Prod.mk.injEq] at H
    obtain ⟨rfl, rfl⟩ := H
    go_wp2
    go_ret2
    exact ⟨E1_, W1_⟩
   ·
    replace c29 := Bool.eq_false_iff.mpr c29
    subst c29
    rw [if_neg (show ¬ (false = true) by decide)] at H
    obtain ⟨t112, A30, H⟩ := bS_ H
    try dsimp only at H
    have HC31 := Aside0.mk H
    clear H
    go_upto_region 6 with (first | ((with_reducible refine gate_callee (f := 74) rfl ?_); refine goesL_ (some 47) rfl rfl Tryz.func74 (by kernel_rfl) rfl #[.string t103] rfl T1_ ?_; (with_reducible refine (sign_Lower.calls t103 t112 _ A30.out).mono ?_); rintro e w32 ⟨rfl, hb⟩; refine ⟨_, rfl, ?_⟩; replace HB := y1_ hb; (try clear hb)))
    (try simp only [Act.put, sA_, sZ_, sS_])
    go_cut [53] (fun v53 wc => ∃ (kq : Nat) (x53_30 : Bool), v53 = .bool x53_30 ∧ Aside0 (place_Host.j1 kq t112 t104 x53_30 = some (r1, r2)) ∧ Aside0 (kq ≤ kj3) ∧ Aside0 (Below w.heap.size w wc))
    case first =>
     have H := HC31.out
     clear HC31
     by_cases c33 : t104.toList = ([] : List UInt8)
     ·
      rw [if_pos c33] at H
      have c33b0 : (t104.toList == ([] : List UInt8)) = true := beq_iff_eq.mpr c33
      have c33b1 : (t104.toList != ([] : List UInt8)) = false := bne_eq_false_iff_eq.mpr c33
      have c33b4 : (t104.toList).isEmpty = true := by have h_ := c33b1; revert h_; generalize t104.toList = l_; cases l_ <;> simp
      clear c33
      (first | rw [c33b4] | rw [c33b0] | (simp only [i64_w, i32_w]; rw [c33b0]) | skip)
      have H' := Aside0.mk H
      clear H
      go_wp2
      go_meet
      case rel => exact ⟨_, (true), E3_, H', ⟨by have := HJ3.out; first | omega | exact Nat.le_refl _⟩, ⟨W1_⟩⟩
     ·
      rw [if_neg c33] at H
      have c33b0 : (t104.toList == ([] : List UInt8)) = false := beq_eq_false_iff_ne.mpr c33
      have c33b1 : (t104.toList != ([] : List UInt8)) = true := bne_iff_ne.mpr c33
      have c33b4 : (t104.toList).isEmpty = false := by have h_ := c33b1; revert h_; generalize t104.toList = l_; cases l_ <;> simp
      (first | rw [c33b4] | rw [c33b0] | (simp only [i64_w, i32_w]; rw [c33b0]) | skip)
      have H' := Aside0.mk H
      clear H
      go_wp2
      go_meet
      case rel => exact ⟨_, ((t106 == 80)), E3_, H', ⟨by have := HJ3.out; first | omega | exact Nat.le_refl _⟩, ⟨W1_⟩⟩
    case rest =>
     clear HC31
     (try clear c7); (try clear c7b0); (try clear c7b1); (try clear c8); (try clear c8b0); (try clear c8b1); (try clear c10); (try clear c11); (try clear c11b0); (try clear c11b1); (try clear c16); (try clear c16b0); (try clear c16b1); (try clear c29); (try clear c33); (try clear c33b0); (try clear c33b1)
     obtain ⟨kq, x53_30, rfl, HA, HJ30, HB⟩ := hcut
     cases kq with
     | zero => exact absurd HA.out (by simp [place_Host.j1])
     | succ kj30 =>
      have H := HA.out
      clear HA
      simp only [place_Host.j1] at H
      by_cases c34 : x53_30 = true
      ·
       subst c34
       rw [if_pos rfl] at H
       simp only [Option.some.injEq, Prod.mk.injEq] at H
       obtain ⟨rfl, rfl⟩ := H
       go_wp2
       go_ret2
       exact ⟨E1_, W1_⟩
      ·
       replace c34 := Bool.eq_false_iff.mpr c34
       subst c34
       rw [if_neg (show ¬ (false = true) by decide)] at H
       obtain ⟨t113, A35, H⟩ := bS_ H
       try dsimp only at H
       by_cases c36 : t113.toList = ([] : List UInt8)
       ·
        rw [if_pos c36] at H
        have c36b0 : (t113.toList == ([] : List UInt8)) = true := beq_iff_eq.mpr c36
        have c36b1 : (t113.toList != ([] : List UInt8)) = false := bne_eq_false_iff_eq.mpr c36
        have c36b4 : (t113.toList).isEmpty = true := by have h_ := c36b1; revert h_; generalize t113.toList = l_; cases l_ <;> simp
        clear c36
        by_cases c37 : t112.size + 1 ≤ 9223372036854775807
        ·
         rw [if_pos c37] at H
         have c37b0 := eq_true c37
         have c37b1 : decide (t112.size + 1 ≤ 9223372036854775807) = true := decide_eq_true c37
         try have c37b2 : (9223372036854775807 < t112.size + 1) = False := eq_false (Nat.not_lt.2 c37)
         by_cases c38 : (t112 ++ (⟨#[58]⟩ : ByteArray)).size + 1 ≤ 9223372036854775807
         ·
          rw [if_pos c38] at H
          have c38b0 := eq_true c38
          have c38b1 : decide ((t112 ++ (⟨#[58]⟩ : ByteArray)).size + 1 ≤ 9223372036854775807) = true := decide_eq_true c38
          try have c38b2 : (9223372036854775807 < (t112 ++ (⟨#[58]⟩ : ByteArray)).size + 1) = False := eq_false (Nat.not_lt.2 c38)
          try have c38b3 : (9223372036854775807 < (t112).size + 1 + 1) = False := by have h_ := c38; (simp only [ByteArray.size_append] at h_); exact eq_false (Nat.not_lt.2 h_)
          simp only [Option.some.injEq, Prod.mk.injEq] at H
          obtain ⟨rfl, rfl⟩ := H
          go_wp2_with (first | ((with_reducible refine gate_callee (f := 75) rfl ?_); refine goesL_ (some 56) rfl rfl Tryz.func75 (by kernel_rfl) rfl #[.string t104, .string (⟨#[48]⟩ : ByteArray)] rfl T1_ ?_; (with_reducible refine (strings_TrimLeft.calls t104 (⟨#[48]⟩ : ByteArray) t113 _ A35.out).mono ?_); rintro e w39 ⟨rfl, hb⟩; refine ⟨_, rfl, ?_⟩; replace HB := y1_ hb; (try clear hb)))
          go_ret2
          exact ⟨E1_, W1_⟩
         ·
          rw [if_neg c38] at H
          exact absurd H (by simp)
        ·
         rw [if_neg c37] at H
         exact absurd H (by simp)
       ·
        rw [if_neg c36] at H
        have c36b0 : (t113.toList == ([] : List UInt8)) = false := beq_eq_false_iff_ne.mpr c36
        have c36b1 : (t113.toList != ([] : List UInt8)) = true := bne_iff_ne.mpr c36
        have c36b4 : (t113.toList).isEmpty = false := by have h_ := c36b1; revert h_; generalize t113.toList = l_; cases l_ <;> simp
        by_cases c40 : t112.size + 1 ≤ 9223372036854775807
        ·
         rw [if_pos c40] at H
         have c40b0 := eq_true c40
         have c40b1 : decide (t112.size + 1 ≤ 9223372036854775807) = true := decide_eq_true c40
         try have c40b2 : (9223372036854775807 < t112.size + 1) = False := eq_false (Nat.not_lt.2 c40)
         by_cases c41 : (t112 ++ (⟨#[58]⟩ : ByteArray)).size + t113.size ≤ 9223372036854775807
         ·
          rw [if_pos c41] at H
          have c41b0 := eq_true c41
          have c41b1 : decide ((t112 ++ (⟨#[58]⟩ : ByteArray)).size + t113.size ≤ 9223372036854775807) = true := decide_eq_true c41
          try have c41b2 : (9223372036854775807 < (t112 ++ (⟨#[58]⟩ : ByteArray)).size + t113.size) = False := eq_false (Nat.not_lt.2 c41)
          try have c41b3 : (9223372036854775807 < (t112).size + 1 + t113.size) = False := by have h_ := c41; (simp only [ByteArray.size_append] at h_); exact eq_false (Nat.not_lt.2 h_)
          simp only [Option.some.injEq, Prod.mk.injEq] at H
          obtain ⟨rfl, rfl⟩ := H
          go_wp2_with (first | ((with_reducible refine gate_callee (f := 75) rfl ?_); refine goesL_ (some 56) rfl rfl Tryz.func75 (by kernel_rfl) rfl #[.string t104, .string (⟨#[48]⟩ : ByteArray)] rfl T1_ ?_; (with_reducible refine (strings_TrimLeft.calls t104 (⟨#[48]⟩ : ByteArray) t113 _ A35.out).mono ?_); rintro e w42 ⟨rfl, hb⟩; refine ⟨_, rfl, ?_⟩; replace HB := y1_ hb; (try clear hb)))
          go_ret2
          exact ⟨E1_, W1_⟩
         ·
          rw [if_neg c41] at H
          exact absurd H (by simp)
        ·
         rw [if_neg c40] at H
         exact absurd H (by simp)

/-! ### conf_rising: function 51 -/
def conf_rising.l0 : Nat → List ByteArray → Int → Option (Bool)
 | 0, _, _ => none
 | k + 1, x0, x3 => if x3 < (x0.length : Int) then (if 0 ≤ x3 then (if 0 ≤ (wrap64 (x3 - 1)) then (if (wrap64 (x3 - 1)) < (x0.length : Int) then (if ((Op.bytesLess ((rdOf ByteArray.empty x0 (wrap64 (x3 - 1))).toList) ((rdOf ByteArray.empty x0 x3).toList)) = true) then (conf_rising.l0 k x0 (wrap64 (x3 + 1))) else (some false)) else (none)) else (none)) else (none)) else (some true)
def conf_rising.f (k : Nat) (l0 : List ByteArray) : Option (Bool) := conf_rising.l0 k l0 1
theorem conf_rising.mono_l : ∀ k, (∀ y0 y1, LeO (conf_rising.l0 k y0 y1) (conf_rising.l0 (k + 1) y0 y1))
 | 0 => fun _ _ r h => by simp [conf_rising.l0] at h
 | k + 1 => by
  have ih0 := conf_rising.mono_l k
  ·
   intro y0 y1
   unfold conf_rising.l0
   repeat' (with_reducible first | exact ih0 _ _ | exact lR_ | refine LeO.ite ?_ ?_ | refine LeO.bind ?_ (fun _ => ?_))
theorem conf_rising.mono : ∀ a0 k, LeO (conf_rising.f k a0) (conf_rising.f (k + 1) a0) := by
 intro a0 k
 have ih0 := conf_rising.mono_l k
 unfold conf_rising.f
 repeat' (with_reducible first | exact ih0 _ _ | exact lR_ | refine LeO.ite ?_ ?_ | refine LeO.bind ?_ (fun _ => ?_))
set_option maxHeartbeats 8000000 in
set_option maxRecDepth 100000 in
theorem conf_rising.calls (k : Nat) (A0 : Option Addr) (c0 : Nat) (l0 : List ByteArray) (r : Bool) (w : World) (hr0 : Kd.C Kd.string w A0 l0.length l0) (hc0 : l0.length ≤ c0) (h : conf_rising.f k l0 = some r) :
  Calls Tryz.prog 51 #[.slice A0 l0.length c0] w fun e w' => e = .returned (.bool r) ∧ Drawn0 w w' := by
 have HR0 := Aside0.mk hr0
 have HC0 := Aside0.mk hc0
 clear hr0 hc0
 have H : (conf_rising.l0 k l0 1) = some r := h
 clear h
 have H' := Aside0.mk H
 clear H
 go_enter Tryz.func51, Tryz.ntmps51
 go_wp2
 repeat (go_quiet (fail); try go_wp2)
 go_loopg [3] k (fun kq v3 w' => ∃ (x3_1 : Int), v3 = .int .i64 x3_1 ∧ Aside0 (conf_rising.l0 kq l0 x3_1 = some r) ∧ Aside0 (kq ≤ k) ∧ Drawn0 w w')
 case atStart => exact ⟨(1), E3_, H', ⟨Nat.le_refl _⟩, D1_⟩
 case round =>
  clear H'
  obtain ⟨x3_1, rfl, HA, HK1, ⟨m1, rfl⟩⟩ := hrel
  cases gk with
  | zero => exact absurd HA.out (by simp [conf_rising.l0])
  | succ k1 =>
   have H := HA.out
   clear HA
   simp only [conf_rising.l0] at H
   by_cases c2 : x3_1 < (l0.length : Int)
   ·
    rw [if_pos c2] at H
    have c2b0 : decide (x3_1 < (l0.length : Int)) = true := decide_eq_true c2
    clear c2
    by_cases c3 : 0 ≤ x3_1
    ·
     rw [if_pos c3] at H
     have c3b0 : decide (0 ≤ x3_1) = true := decide_eq_true c3
     clear c3
     obtain ⟨ji4, hji4⟩ : ∃ j_ : Int, (wrap64 (x3_1 - 1)) = j_ := ⟨_, rfl⟩
     replace H : (if 0 ≤ (ji4) then (if (ji4) < (l0.length : Int) then (if ((Op.bytesLess ((rdOf ByteArray.empty l0 (ji4)).toList) ((rdOf ByteArray.empty l0 x3_1).toList)) = true) then (conf_rising.l0 k1 l0 (wrap64 (x3_1 + 1))) else (some false)) else (none)) else (none)) = some r := by first | (rw [hji4] at H; exact H) | (simp only [hji4] at H ⊢; exact H)
     have hji4w : (IntKind.i64.wrap (x3_1 - 1)) = ji4 := (i64_w _).trans hji4
     by_cases c5 : 0 ≤ (ji4)
     ·
      rw [if_pos c5] at H
      have c5b0 : decide (0 ≤ (ji4)) = true := decide_eq_true c5
      clear c5
      by_cases c6 : (ji4) < (l0.length : Int)
      ·
       rw [if_pos c6] at H
       have c6b0 : decide ((ji4) < (l0.length : Int)) = true := decide_eq_true c6
       clear c6
       by_cases c7 : ((Op.bytesLess ((rdOf ByteArray.empty l0 (ji4)).toList) ((rdOf ByteArray.empty l0 x3_1).toList)) = true)
       ·
        rw [if_pos c7] at H
        have c7b0 : (Op.bytesLess ((rdOf ByteArray.empty l0 (ji4)).toList) ((rdOf ByteArray.empty l0 x3_1).toList)) = true := c7
        have c7b8 := bl_asymm c7b0
        have c7b9 := bl_ne c7b0
        clear c7
        have H' := Aside0.mk H
        clear H
        have p114 : 0 ≤ (x3_1 : Int) := oA_
        have q114 : x3_1 < (l0.length : Int) := oA_
        obtain ⟨ad114, e114, hx114_0⟩ := Kd.at_string HR0.out x3_1 p114 q114
        cases e114
        replace p114 := eq_true p114
        replace q114 := eq_true q114
        have p115 : 0 ≤ ((ji4) : Int) := oA_
        have q115 : (ji4) < (l0.length : Int) := oA_
        obtain ⟨ad115, e115, hx115_0⟩ := Kd.at_string HR0.out (ji4) p115 q115
        obtain rfl : ad114 = ad115 := (by injection e115)
        replace p115 := eq_true p115
        replace q115 := eq_true q115
        go_wp2
        repeat (go_quiet (fail); try go_wp2)
        go_roundg k1
        case measure => have := HK1.out; omega
        case rel => exact ⟨(wrap64 (x3_1 + 1)), E3_, H', ⟨by have := HK1.out; omega⟩, D1_⟩
       ·
        rw [if_neg c7] at H
        have c7b0 : (Op.bytesLess ((rdOf ByteArray.empty l0 (ji4)).toList) ((rdOf ByteArray.empty l0 x3_1).toList)) = false := by simpa using c7
        have c7b8 := bl_ge c7b0
        clear c7
        obtain rfl := Option.some.inj H
        have p114 : 0 ≤ (x3_1 : Int) := oA_
        have q114 : x3_1 < (l0.length : Int) := oA_
        obtain ⟨ad114, e114, hx114_0⟩ := Kd.at_string HR0.out x3_1 p114 q114
        cases e114
        replace p114 := eq_true p114
        replace q114 := eq_true q114
        have p115 : 0 ≤ ((ji4) : Int) := oA_
        have q115 : (ji4) < (l0.length : Int) := oA_
        obtain ⟨ad115, e115, hx115_0⟩ := Kd.at_string HR0.out (ji4) p115 q115
        obtain rfl : ad114 = ad115 := (by injection e115)
        replace p115 := eq_true p115
        replace q115 := eq_true q115
        go_wp2
        repeat (go_quiet (fail); try go_wp2)
        go_ret
        exact ⟨by first | rfl | (rw [Int.tdiv_eq_ediv_of_nonneg (by assumption)]; rfl) | (simp; done) | (simp only [← hji4] <;> (first | rfl | simp)) | (simp [*]; done), D1_⟩
      ·
       rw [if_neg c6] at H
       exact absurd H (by simp)
     ·
      rw [if_neg c5] at H
      exact absurd H (by simp)
    ·
     rw [if_neg c3] at H
     exact absurd H (by simp)
   ·
    rw [if_neg c2] at H
    have c2b0 : decide (x3_1 < (l0.length : Int)) = false := decide_eq_false c2
    clear c2
    obtain rfl := Option.some.inj H
    go_wp2
    repeat (go_quiet (fail); try go_wp2)
    go_ret
    exact ⟨E2_, D1_⟩

/-! ### slices_IndexFunc_string_string: function 76, by hand -/
/-! ## Of strings, with a function that may make memory -/
def idxP {α : Type} (p : α → Bool) (l : List α) : Int := if l.any p then (l.findIdx p : Int) else -1
theorem idxP_nonneg {α : Type} (p : α → Bool) (l : List α) : decide (idxP p l ≥ 0) = l.any p := by
 unfold idxP
 cases h : l.any p <;> simp
theorem idxP_hit {α : Type} (p : α → Bool) (l : List α) (k : Nat) (hk : k < l.length) (h : p l[k] = true) (hn : ∀ j (hj : j < l.length), j < k → p l[j] = false) : idxP p l = (k : Int) := by
 unfold idxP
 have ha : l.any p = true := List.any_eq_true.2 ⟨l[k], List.getElem_mem hk, h⟩
 have hf : l.findIdx p = k := by
  rw [List.findIdx_eq hk]
  exact ⟨h, fun j hj => hn j (by omega) hj⟩
 rw [if_pos ha, hf]
theorem idxP_miss {α : Type} (p : α → Bool) (l : List α) (hn : ∀ j (hj : j < l.length), p l[j] = false) : idxP p l = -1 := by
 unfold idxP
 rw [if_neg]
 intro ha
 obtain ⟨x, hx, hp⟩ := List.any_eq_true.1 ha
 obtain ⟨j, hj, rfl⟩ := List.getElem_of_mem hx
 rw [hn j hj] at hp
 cases hp
set_option maxHeartbeats 2000000 in
set_option maxRecDepth 100000 in
theorem IndexFunc_string (p : ByteArray → Bool) (g : Nat) (lb : Array Value) (eg : ∀ args w, (callFunc g args).run Tryz.prog w = .ok (.enter g args) w) (A : Option Addr) (c : Nat) (l : List ByteArray) (w : World)
  (hp : ∀ (W : World) (x : ByteArray), x ∈ l → Below w.heap.size w W → Calls Tryz.prog g (#[.string x] ++ lb) W fun e w' => e = .returned (.bool (p x)) ∧ Below W.heap.size W w')
  (hr : Kd.C Kd.string w A l.length l) (hc : l.length ≤ c) (hbig : l.length ≤ 9223372036854775806) :
  Calls Tryz.prog 76 #[.slice A l.length c, .func (.func g) #[] lb] w fun e w' => e = .returned (.int .i64 (idxP p l)) ∧ Below w.heap.size w w' := by
 have HR := Aside0.mk hr
 have HP := Aside0.mk hp
 clear hr hp
 go_enter Tryz.func76, Tryz.ntmps76
 go_wp2
 go_loopw [8] (fun i wr => ∃ k : Nat, k ≤ l.length ∧ i = .int .i64 k ∧ Aside0 (Below w.heap.size w wr) ∧ Aside0 (∀ j (hj : j < l.length), j < k → p l[j] = false)) (fun i _ => l.length - (intOf i).toNat)
 case atStart => exact ⟨0, Nat.zero_le _, rfl, ⟨Below.refl _ _⟩, ⟨fun j hj h => absurd h (Nat.not_lt_zero _)⟩⟩
 case round =>
  obtain ⟨k, hk, rfl, HB, HN⟩ := hrel
  by_cases hlt : k < l.length
  ·
   obtain ⟨ad, cs, rfl, _⟩ := Kd.C_get HR.out ByteArray.empty (k : Int) (by omega) (by omega)
   have hcell0 := Kd.foot_string HR.out (k : Int) (by omega) (by omega)
   have hcell := pw_cell_below (HB.out) hcell0
   have hx : rdOf ByteArray.empty l (k : Int) = l[k] := by simp [rdOf, hlt]
   rw [hx] at hcell
   simp only [Int.toNat_natCast] at hcell
   clear hcell0
   have hcall := HP.out wr l[k] (List.getElem_mem hlt) HB.out
   obtain ⟨y, hy⟩ : ∃ y, y = l[k] := ⟨_, rfl⟩
   rw [← hy] at hcell hcall
   have HY := Aside0.mk hy
   clear hy hx
   have p5 : ((0 : Int) ≤ (k : Int)) = True := eq_true (by omega)
   have q5 : ((k : Int) < (l.length : Int)) = True := eq_true (by omega)
   cases hq : p y with
   | true =>
    rw [hq] at hcall
    go_wp2_with (go_at_fn g; refine hcall.mono ?_; rintro e w' ⟨rfl, hb'⟩)
    go_ret
    refine ⟨?_, below_then HB.out HB.out.size hb'⟩
    rw [idxP_hit p l k hlt (by rw [← HY.out]; exact hq) HN.out]
    rfl
   | false =>
    rw [hq] at hcall
    go_wp2_with (go_at_fn g; refine hcall.mono ?_; rintro e w' ⟨rfl, hb'⟩)
    go_roundw
    case rel =>
     refine ⟨k + 1, by omega, by simp, ⟨below_then HB.out HB.out.size hb'⟩, ⟨fun j hj h => ?_⟩⟩
     by_cases e : j = k
     ·
      subst e
      rw [← HY.out]; exact hq
     ·
      exact HN.out j hj (by omega)
    case measure => simp [intOf]; omega
  ·
   have q5 : ((k : Int) < (l.length : Int)) = False := eq_false (by omega)
   go_wp2
   go_ret
   refine ⟨?_, HB.out⟩
   rw [idxP_miss p l (fun j hj => HN.out j hj (by omega))]
   rfl

/-! ### slices_ContainsFunc_string_string: function 52, by hand -/
set_option maxHeartbeats 2000000 in
set_option maxRecDepth 100000 in
theorem ContainsFunc_string (p : ByteArray → Bool) (g : Nat) (lb : Array Value) (eg : ∀ args w, (callFunc g args).run Tryz.prog w = .ok (.enter g args) w) (A : Option Addr) (c : Nat) (l : List ByteArray) (w : World)
  (hp : ∀ (W : World) (x : ByteArray), x ∈ l → Below w.heap.size w W → Calls Tryz.prog g (#[.string x] ++ lb) W fun e w' => e = .returned (.bool (p x)) ∧ Below W.heap.size W w')
  (hr : Kd.C Kd.string w A l.length l) (hc : l.length ≤ c) (hbig : l.length ≤ 9223372036854775806) :
  Calls Tryz.prog 52 #[.slice A l.length c, .func (.func g) #[] lb] w fun e w' => e = .returned (.bool (l.any p)) ∧ Below w.heap.size w w' := by
 have C := IndexFunc_string p g lb eg A c l w hp hr hc hbig
 have hd := idxP_nonneg p l
 generalize idxP p l = z at *
 clear hp hr
 go_enter Tryz.func52, Tryz.ntmps52
 go_wp2_with (go_at_call 76; refine C.mono ?_; rintro e w' ⟨rfl, hb'⟩)
 go_ret
 exact ⟨by rw [← hd]; rfl, hb'⟩

/-! ### sign_letter: function 91 -/
def sign_letter.f (a0 : Int) : Option (Bool) := if a0 ≥ 97 then (if a0 ≤ 122 then (some true) else (if a0 ≥ 65 then (if a0 ≤ 90 then (some true) else (if a0 ≥ 48 then (some (decide (a0 ≤ 57))) else (some false))) else (if a0 ≥ 48 then (some (decide (a0 ≤ 57))) else (some false)))) else (if a0 ≥ 65 then (if a0 ≤ 90 then (some true) else (if a0 ≥ 48 then (some (decide (a0 ≤ 57))) else (some false))) else (if a0 ≥ 48 then (some (decide (a0 ≤ 57))) else (some false)))
set_option maxHeartbeats 8000000 in
set_option maxRecDepth 100000 in
theorem sign_letter.calls (a0 : Int) (r : Bool) (w : World) (h : sign_letter.f a0 = some r) :
  Calls Tryz.prog 91 #[.int .u8 a0] w fun e w' => e = .returned (.bool r) ∧ Drawn0 w w' := by
 have H : (if a0 ≥ 97 then (if a0 ≤ 122 then (some true) else (if a0 ≥ 65 then (if a0 ≤ 90 then (some true) else (if a0 ≥ 48 then (some (decide (a0 ≤ 57))) else (some false))) else (if a0 ≥ 48 then (some (decide (a0 ≤ 57))) else (some false)))) else (if a0 ≥ 65 then (if a0 ≤ 90 then (some true) else (if a0 ≥ 48 then (some (decide (a0 ≤ 57))) else (some false))) else (if a0 ≥ 48 then (some (decide (a0 ≤ 57))) else (some false)))) = some r := h
 clear h
 by_cases c2 : a0 ≥ 97
 ·
  rw [if_pos c2] at H
  have c2b0 : decide (97 ≤ a0) = true := decide_eq_true c2
  clear c2
  by_cases c3 : a0 ≤ 122
  ·
   rw [if_pos c3] at H
   have c3b0 : decide (a0 ≤ 122) = true := decide_eq_true c3
   clear c3
   obtain rfl := Option.some.inj H
   go_enter Tryz.func91, Tryz.ntmps91
   go_wp2
   go_ret
   exact ⟨E2_, D1_⟩
  ·
   rw [if_neg c3] at H
   have c3b0 : decide (a0 ≤ 122) = false := decide_eq_false c3
   clear c3
   by_cases c4 : a0 ≥ 65
   ·
    rw [if_pos c4] at H
    have c4b0 : decide (65 ≤ a0) = true := decide_eq_true c4
    clear c4
    by_cases c5 : a0 ≤ 90
    ·
     rw [if_pos c5] at H
     have c5b0 : decide (a0 ≤ 90) = true := decide_eq_true c5
     clear c5
     obtain rfl := Option.some.inj H
     go_enter Tryz.func91, Tryz.ntmps91
     go_wp2
     go_ret
     exact ⟨E2_, D1_⟩
    ·
     rw [if_neg c5] at H
     have c5b0 : decide (a0 ≤ 90) = false := decide_eq_false c5
     clear c5
     by_cases c6 : a0 ≥ 48
     ·
      rw [if_pos c6] at H
      have c6b0 : decide (48 ≤ a0) = true := decide_eq_true c6
      clear c6
      obtain rfl := Option.some.inj H
      go_enter Tryz.func91, Tryz.ntmps91
      go_wp2
      go_ret
      exact ⟨E2_, D1_⟩
     ·
      rw [if_neg c6] at H
      have c6b0 : decide (48 ≤ a0) = false := decide_eq_false c6
      clear c6
      obtain rfl := Option.some.inj H
      go_enter Tryz.func91, Tryz.ntmps91
      go_wp2
      go_ret
      exact ⟨E2_, D1_⟩
   ·
    rw [if_neg c4] at H
    have c4b0 : decide (65 ≤ a0) = false := decide_eq_false c4
    clear c4
    by_cases c7 : a0 ≥ 48
    ·
     rw [if_pos c7] at H
     have c7b0 : decide (48 ≤ a0) = true := decide_eq_true c7
     clear c7
     obtain rfl := Option.some.inj H
     go_enter Tryz.func91, Tryz.ntmps91
     go_wp2
     go_ret
     exact ⟨E2_, D1_⟩
    ·
     rw [if_neg c7] at H
     have c7b0 : decide (48 ≤ a0) = false := decide_eq_false c7
     clear c7
     obtain rfl := Option.some.inj H
     go_enter Tryz.func91, Tryz.ntmps91
     go_wp2
     go_ret
     exact ⟨E2_, D1_⟩
 ·
  rw [if_neg c2] at H
  have c2b0 : decide (97 ≤ a0) = false := decide_eq_false c2
  clear c2
  by_cases c8 : a0 ≥ 65
  ·
   rw [if_pos c8] at H
   have c8b0 : decide (65 ≤ a0) = true := decide_eq_true c8
   clear c8
   by_cases c9 : a0 ≤ 90
   ·
    rw [if_pos c9] at H
    have c9b0 : decide (a0 ≤ 90) = true := decide_eq_true c9
    clear c9
    obtain rfl := Option.some.inj H
    go_enter Tryz.func91, Tryz.ntmps91
    go_wp2
    go_ret
    exact ⟨E2_, D1_⟩
   ·
    rw [if_neg c9] at H
    have c9b0 : decide (a0 ≤ 90) = false := decide_eq_false c9
    clear c9
    by_cases c10 : a0 ≥ 48
    ·
     rw [if_pos c10] at H
     have c10b0 : decide (48 ≤ a0) = true := decide_eq_true c10
     clear c10
     obtain rfl := Option.some.inj H
     go_enter Tryz.func91, Tryz.ntmps91
     go_wp2
     go_ret
     exact ⟨E2_, D1_⟩
    ·
     rw [if_neg c10] at H
     have c10b0 : decide (48 ≤ a0) = false := decide_eq_false c10
     clear c10
     obtain rfl := Option.some.inj H
     go_enter Tryz.func91, Tryz.ntmps91
     go_wp2
     go_ret
     exact ⟨E2_, D1_⟩
  ·
   rw [if_neg c8] at H
   have c8b0 : decide (65 ≤ a0) = false := decide_eq_false c8
   clear c8
   by_cases c11 : a0 ≥ 48
   ·
    rw [if_pos c11] at H
    have c11b0 : decide (48 ≤ a0) = true := decide_eq_true c11
    clear c11
    obtain rfl := Option.some.inj H
    go_enter Tryz.func91, Tryz.ntmps91
    go_wp2
    go_ret
    exact ⟨E2_, D1_⟩
   ·
    rw [if_neg c11] at H
    have c11b0 : decide (48 ≤ a0) = false := decide_eq_false c11
    clear c11
    obtain rfl := Option.some.inj H
    go_enter Tryz.func91, Tryz.ntmps91
    go_wp2
    go_ret
    exact ⟨E2_, D1_⟩

/-! ### sign_Token: function 77 -/
def sign_Token.l0 : Nat → ByteArray → Int → Int → Option (Bool)
 | 0, _, _, _ => none
 | k + 1, x0, x5, x6 => if x6 < x5 then (if 0 ≤ x6 then (if x6 < (x0.size : Int) then ((sign_letter.f (bt x0 x6)).bind fun t116 => (if t116 = true then (sign_Token.l0 k x0 x5 (wrap64 (x6 + 1))) else ((strings_IndexByte.f (⟨#[33, 35, 36, 37, 38, 39, 42, 43, 45, 46, 94, 95, 124, 126, 96]⟩ : ByteArray) (bt x0 x6)).bind fun t117 => (if t117 < 0 then (some false) else (sign_Token.l0 k x0 x5 (wrap64 (x6 + 1))))))) else (none)) else (none)) else (some (x0.toList != ([] : List UInt8)))
def sign_Token.f (k : Nat) (a0 : ByteArray) : Option (Bool) := sign_Token.l0 k a0 (a0.size : Int) 0
theorem sign_Token.mono_l : ∀ k, (∀ y0 y1 y2, LeO (sign_Token.l0 k y0 y1 y2) (sign_Token.l0 (k + 1) y0 y1 y2))
 | 0 => fun _ _ _ r h => by simp [sign_Token.l0] at h
 | k + 1 => by
  have ih0 := sign_Token.mono_l k
  ·
   intro y0 y1 y2
   unfold sign_Token.l0
   repeat' (with_reducible first | exact ih0 _ _ _ | exact lR_ | refine LeO.ite ?_ ?_ | refine LeO.bind ?_ (fun _ => ?_))
theorem sign_Token.mono : ∀ a0 k, LeO (sign_Token.f k a0) (sign_Token.f (k + 1) a0) := by
 intro a0 k
 have ih0 := sign_Token.mono_l k
 unfold sign_Token.f
 repeat' (with_reducible first | exact ih0 _ _ _ | exact lR_ | refine LeO.ite ?_ ?_ | refine LeO.bind ?_ (fun _ => ?_))
set_option maxHeartbeats 8000000 in
set_option maxRecDepth 100000 in
theorem sign_Token.calls (k : Nat) (a0 : ByteArray) (r : Bool) (w : World) (h : sign_Token.f k a0 = some r) :
  Calls Tryz.prog 77 #[.string a0] w fun e w' => e = .returned (.bool r) ∧ Drawn0 w w' := by
 have H : (sign_Token.l0 k a0 (a0.size : Int) 0) = some r := h
 clear h
 have H' := Aside0.mk H
 clear H
 go_enter Tryz.func77, Tryz.ntmps77
 go_wp2
 go_loopg [6] k (fun kq v6 w' => ∃ (x6_1 : Int), v6 = .int .i64 x6_1 ∧ Aside0 (sign_Token.l0 kq a0 (a0.size : Int) x6_1 = some r) ∧ Aside0 (kq ≤ k) ∧ Drawn0 w w')
 case atStart => exact ⟨(0), E3_, H', ⟨Nat.le_refl _⟩, D1_⟩
 case round =>
  clear H'
  obtain ⟨x6_1, rfl, HA, HK1, ⟨m1, rfl⟩⟩ := hrel
  cases gk with
  | zero => exact absurd HA.out (by simp [sign_Token.l0])
  | succ k1 =>
   have H := HA.out
   clear HA
   simp only [sign_Token.l0] at H
   by_cases c2 : x6_1 < (a0.size : Int)
   ·
    rw [if_pos c2] at H
    have c2b0 : decide (x6_1 < (a0.size : Int)) = true := decide_eq_true c2
    clear c2
    by_cases c3 : 0 ≤ x6_1
    ·
     rw [if_pos c3] at H
     have c3b0 : decide (0 ≤ x6_1) = true := decide_eq_true c3
     clear c3
     by_cases c4 : x6_1 < (a0.size : Int)
     ·
      rw [if_pos c4] at H
      have c4b0 : decide (x6_1 < (a0.size : Int)) = true := decide_eq_true c4
      clear c4
      obtain ⟨t116, A6, H⟩ := bS_ H
      try dsimp only at H
      by_cases c7 : t116 = true
      ·
       subst c7
       rw [if_pos rfl] at H
       have H' := Aside0.mk H
       clear H
       have p5 : 0 ≤ (x6_1 : Int) := oA_
       have q5 : x6_1 < (a0.size : Int) := oA_
       have hx5 := bt_at a0 x6_1
       replace p5 := eq_true p5
       replace q5 := eq_true q5
       go_wp2_with (first | ((with_reducible refine gate_callee (f := 91) rfl ?_); refine goesL_ (some 12) rfl rfl Tryz.func91 (by kernel_rfl) rfl #[.int .u8 (bt a0 x6_1)] rfl T1_ ?_; (with_reducible refine (sign_letter.calls (bt a0 x6_1) true _ A6.out).mono ?_); rintro e w' ⟨rfl, ⟨nd, rfl⟩⟩; refine ⟨_, rfl, ?_⟩))
       go_roundg k1
       case measure => have := HK1.out; omega
       case rel => exact ⟨(wrap64 (x6_1 + 1)), E3_, H', ⟨by have := HK1.out; omega⟩, D1_⟩
      ·
       replace c7 := Bool.eq_false_iff.mpr c7
       subst c7
       rw [if_neg (show ¬ (false = true) by decide)] at H
       obtain ⟨t117, A9, H⟩ := bS_ H
       try dsimp only at H
       by_cases c10 : t117 < 0
       ·
        rw [if_pos c10] at H
        have c10b0 : decide (t117 < 0) = true := decide_eq_true c10
        clear c10
        obtain rfl := Option.some.inj H
        have p5 : 0 ≤ (x6_1 : Int) := oA_
        have q5 : x6_1 < (a0.size : Int) := oA_
        have hx5 := bt_at a0 x6_1
        replace p5 := eq_true p5
        replace q5 := eq_true q5
        go_wp2_with (first | ((with_reducible refine gate_callee (f := 91) rfl ?_); refine goesL_ (some 12) rfl rfl Tryz.func91 (by kernel_rfl) rfl #[.int .u8 (bt a0 x6_1)] rfl T1_ ?_; (with_reducible refine (sign_letter.calls (bt a0 x6_1) false _ A6.out).mono ?_); rintro e w' ⟨rfl, ⟨nd, rfl⟩⟩; refine ⟨_, rfl, ?_⟩; have p8 : 0 ≤ (x6_1 : Int) := oA_; have q8 : x6_1 < (a0.size : Int) := oA_; have hx8 := bt_at a0 x6_1; replace p8 := eq_true p8; replace q8 := eq_true q8) | (go_at_call 86; (with_reducible refine (strings_IndexByte.calls (⟨#[33, 35, 36, 37, 38, 39, 42, 43, 45, 46, 94, 95, 124, 126, 96]⟩ : ByteArray) (bt a0 x6_1) t117 _ A9.out).mono ?_); rintro e w' ⟨rfl, ⟨nd, rfl⟩⟩))
        go_ret
        exact ⟨E2_, D1_⟩
       ·
        rw [if_neg c10] at H
        have c10b0 : decide (t117 < 0) = false := decide_eq_false c10
        clear c10
        have H' := Aside0.mk H
        clear H
        have p5 : 0 ≤ (x6_1 : Int) := oA_
        have q5 : x6_1 < (a0.size : Int) := oA_
        have hx5 := bt_at a0 x6_1
        replace p5 := eq_true p5
        replace q5 := eq_true q5
        go_wp2_with (first | ((with_reducible refine gate_callee (f := 91) rfl ?_); refine goesL_ (some 12) rfl rfl Tryz.func91 (by kernel_rfl) rfl #[.int .u8 (bt a0 x6_1)] rfl T1_ ?_; (with_reducible refine (sign_letter.calls (bt a0 x6_1) false _ A6.out).mono ?_); rintro e w' ⟨rfl, ⟨nd, rfl⟩⟩; refine ⟨_, rfl, ?_⟩; have p8 : 0 ≤ (x6_1 : Int) := oA_; have q8 : x6_1 < (a0.size : Int) := oA_; have hx8 := bt_at a0 x6_1; replace p8 := eq_true p8; replace q8 := eq_true q8) | (go_at_call 86; (with_reducible refine (strings_IndexByte.calls (⟨#[33, 35, 36, 37, 38, 39, 42, 43, 45, 46, 94, 95, 124, 126, 96]⟩ : ByteArray) (bt a0 x6_1) t117 _ A9.out).mono ?_); rintro e w' ⟨rfl, ⟨nd, rfl⟩⟩))
        go_roundg k1
        case measure => have := HK1.out; omega
        case rel => exact ⟨(wrap64 (x6_1 + 1)), E3_, H', ⟨by have := HK1.out; omega⟩, D1_⟩
     ·
      rw [if_neg c4] at H
      exact absurd H (by simp)
    ·
     rw [if_neg c3] at H
     exact absurd H (by simp)
   ·
    rw [if_neg c2] at H
    have c2b0 : decide (x6_1 < (a0.size : Int)) = false := decide_eq_false c2
    clear c2
    obtain rfl := Option.some.inj H
    go_wp2
    go_ret
    exact ⟨E2_, D1_⟩

end Go.Proofs.YtlncpbnadlpihaaGreatDoor.PAll
