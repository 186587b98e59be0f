import Derived.Test.YtlncpbnadlpihaaGreatDoorPAllx0
import Derived.Test.YtlncpbnadlpihaaGreatDoorPAllx2
namespace Go.Proofs.YtlncpbnadlpihaaGreatDoor.PAll
open Go.RowKit Go.Proofs.YtlncpbnadlpihaaGreatDoorW.PrintWords Go.Proofs.YtlncpbnadlpihaaGreatDoorW.PrintLast Go.Proofs.YtlncpbnadlpihaaGreatDoorW.PrintMore
attribute [local go_sem] max2_int min2_int max_two min_two max_three min_three max_four min_four   -- for this text's walks alone
set_option linter.unusedVariables false
set_option linter.unusedSimpArgs false

/-! ### place_only: function 73 -/
def place_only.l0 : Nat → ByteArray → List Int → Int → Int → Option (Bool)
 | 0, _, _, _, _ => none
 | k + 1, x0, x1, x7, x8 => if x8 < x7 then (if 0 ≤ x8 then (if x8 < (x0.size : Int) then ((place_letter.f (bt x0 x8)).bind fun t101 => (if t101 = true then (place_only.l0 k x0 x1 x7 (wrap64 (x8 + 1))) else ((strings_IndexByte.f (strOfNums x1) (bt x0 x8)).bind fun t102 => (if t102 < 0 then (some false) else (place_only.l0 k x0 x1 x7 (wrap64 (x8 + 1))))))) else (none)) else (none)) else (some true)
def place_only.f (k : Nat) (a0 : ByteArray) (l1 : List Int) : Option (Bool) := place_only.l0 k a0 l1 (a0.size : Int) 0
theorem place_only.mono_l : ∀ k, (∀ y0 y1 y2 y3, LeO (place_only.l0 k y0 y1 y2 y3) (place_only.l0 (k + 1) y0 y1 y2 y3))
 | 0 => fun _ _ _ _ r h => by simp [place_only.l0] at h
 | k + 1 => by
  have ih0 := place_only.mono_l k
  ·
   intro y0 y1 y2 y3
   unfold place_only.l0
   repeat' (with_reducible first | exact ih0 _ _ _ _ | exact lR_ | refine LeO.ite ?_ ?_ | refine LeO.bind ?_ (fun _ => ?_))
theorem place_only.mono : ∀ a0 a1 k, LeO (place_only.f k a0 a1) (place_only.f (k + 1) a0 a1) := by
 intro a0 a1 k
 have ih0 := place_only.mono_l k
 unfold place_only.f
 repeat' (with_reducible first | exact ih0 _ _ _ _ | exact lR_ | refine LeO.ite ?_ ?_ | refine LeO.bind ?_ (fun _ => ?_))
def place_only.T4 : Bool × List (List Nat × List Nat) := (true, [([], []), ([], []), ([0, 1], [0, 1]), ([2], [2]), ([3], [3]), ([4, 3], [4]), ([5], [5]), ([6, 5], [5, 6]), ([5], [5]), ([5], [5]), ([8, 9, 5], [5, 8, 9]), ([7, 10, 5, 5], [5, 7, 10]), ([11, 5], [5, 11]), ([5, 12], [5, 12])])
def place_only.B4 : List Nat := [0, 0, 3, 7, 15, 31, 63, 127, 63, 63, 831, 2047, 4095, 8191]
theorem place_only.tab4 : rtab .any (opsOf Tryz.f73 4) = place_only.T4 := by kernel_rfl
theorem place_only.bits4 : waitsOk place_only.T4.2 place_only.B4 = true := by kernel_rfl
set_option maxHeartbeats 8000000 in
set_option maxRecDepth 100000 in
theorem place_only.calls (k : Nat) (a0 : ByteArray) (A1 : Option Addr) (c1 : Nat) (l1 : List Int) (r : Bool) (w : World) (hr1 : Kd.C (Kd.int .u8) w A1 l1.length l1) (hc1 : l1.length ≤ c1) (h : place_only.f k a0 l1 = some r) :
  Calls Tryz.prog 73 #[.string a0, .slice A1 l1.length c1] w fun e w' => e = .returned (.bool r) ∧ Below w.heap.size w w' := by
 have HR1 := Aside0.mk hr1
 have HC1 := Aside0.mk hc1
 clear hr1 hc1
 have HB := Aside0.mk (Below.refl w.heap.size w)
 have H : (place_only.l0 k a0 l1 (a0.size : Int) 0) = some r := h
 clear h
 have H' := Aside0.mk H
 clear H
 go_enter Tryz.func73, Tryz.ntmps73
 go_wp2
 go_loopg [8] k (fun kq v8 w' => ∃ (x8_1 : Int), v8 = .int .i64 x8_1 ∧ Aside0 (place_only.l0 kq a0 l1 (a0.size : Int) x8_1 = some r) ∧ Aside0 (kq ≤ k) ∧ Aside0 (Below w.heap.size w w'))
 case atStart => exact ⟨(0), E3_, H', ⟨Nat.le_refl _⟩, ⟨W1_⟩⟩
 case round =>
  clear H'
  (try clear c1)
  obtain ⟨x8_1, rfl, HA, HK1, HB⟩ := hrel
  cases gk with
  | zero => exact absurd HA.out (by simp [place_only.l0])
  | succ k1 =>
   have H := HA.out
   clear HA
   simp only [place_only.l0] at H
   by_cases c3 : x8_1 < (a0.size : Int)
   ·
    rw [if_pos c3] at H
    have c3b0 : decide (x8_1 < (a0.size : Int)) = true := decide_eq_true c3
    clear c3
    by_cases c4 : 0 ≤ x8_1
    ·
     rw [if_pos c4] at H
     have c4b0 : decide (0 ≤ x8_1) = true := decide_eq_true c4
     clear c4
     by_cases c5 : x8_1 < (a0.size : Int)
     ·
      rw [if_pos c5] at H
      have c5b0 : decide (x8_1 < (a0.size : Int)) = true := decide_eq_true c5
      clear c5
      obtain ⟨t101, A7, H⟩ := bS_ H
      try dsimp only at H
      by_cases c8 : t101 = true
      ·
       subst c8
       rw [if_pos rfl] at H
       have H' := Aside0.mk H
       clear H
       try go_wp2
       have n0_ := Aside0.mk (zD_ HB.out)
       clear HB
       have HB := n0_
       clear n0_
       have p6 : 0 ≤ (x8_1 : Int) := oA_
       have q6 : x8_1 < (a0.size : Int) := oA_
       have hx6 := bt_at a0 x8_1
       replace p6 := eq_true p6
       replace q6 := eq_true q6
       refine start_ (n := 14) (S := fun w' => Kd.C (Kd.int .u8) w' A1 l1.length l1) (ds := []) #[false, false, false, false, false, false, false, false, false, false, false, false, false, false] (by kernel_rfl) rfl rfl (Kd.C_below HR1.out HB.out) (fun hHeld => ?_); refine with_tabW place_only.tab4 place_only.bits4 (fun HT_ HW_ => ?_)
       generalize wr.drew = w9 at HB hHeld ⊢
       refine pure_ (i := 0) (N := some 11) (v := ?_) (a' := ?_) #[true, false, false, false, false, false, false, false, false, false, false, false, false, false] rfl rfl (any_of HT_.out (by kernel_rfl)) (fun _ _ _ h => h) (Or.inl ⟨by rfl, ?_⟩) ?_ ?_
       rotate_left
       ·
        intro w'
        go_simp
        with_reducible rfl
       rotate_left
       ·
        simp only [Act.put, sA_, sZ_, sS_, i64_w, i32_w]
        rfl
       refine pure_ (i := 1) (N := some 12) (v := ?_) (a' := ?_) #[true, true, false, false, false, false, false, false, false, false, false, false, false, false] rfl rfl (any_of HT_.out (by kernel_rfl)) (fun _ _ _ h => h) (Or.inl ⟨by rfl, ?_⟩) ?_ ?_
       rotate_left
       ·
        intro w'
        go_simp
        with_reducible rfl
       rotate_left
       ·
        simp only [Act.put, sA_, sZ_, sS_, i64_w, i32_w]
        rfl
       refine take_ (i := 2) (N := some 13) (v := ?_) (a' := ?_) #[true, true, true, false, false, false, false, false, false, false, false, false, false, false] rfl rfl (take_ofW HT_.out HW_.out (by kernel_rfl)) (fun _ _ _ h => h) (Or.inl ⟨by rfl, ?_⟩) hHeld ?_ ?_
       rotate_left
       ·
        intro w' _
        go_simp
        with_reducible rfl
       rotate_left
       ·
        simp only [Act.put, sA_, sZ_, sS_, i64_w, i32_w]
        rfl
       refine one_ (i := 3) (N := some 14) #[true, true, true, true, false, false, false, false, false, false, false, false, false, false] rfl rfl (one_of HT_.out (by kernel_rfl)) (by decide) (fun K hK => ?_)
       refine goes_ Tryz.func85 (by kernel_rfl) rfl #[.int .u8 (bt a0 x8_1)] (by rfl) rfl rfl T1_ ?_
       with_reducible refine (place_letter.calls (bt a0 x8_1) true _ A7.out).mono ?_
       rintro e w10 ⟨rfl, hb⟩
       refine ⟨_, rfl, ?_⟩
       have n0_ := Aside0.mk (below_step W1_ hb)
       clear HB
       have HB := n0_
       clear n0_
       (try clear hb)
       (try clear hb2)
       (try clear hk)
       (try clear hi)
       refine hK.out _ _ (by first | exact Kd.C_below HR1.out HB.out | exact Kd.C_drewN (Kd.C_below HR1.out HB.out) _) (fun hHeld => ?_)
       clear hK K
       refine norm_ (a' := ?_) ?_ ?_
       rotate_left
       ·
        show Act.put _ (some 14) _ = _
        simp only [Act.put, sA_, sZ_, sS_, i64_w, i32_w]
        rfl
       refine pure_ (i := 4) (N := some 15) (v := ?_) (a' := ?_) #[true, true, true, true, true, false, false, false, false, false, false, false, false, false] rfl rfl (any_of HT_.out (by kernel_rfl)) (fun _ _ _ h => h) (Or.inl ⟨by rfl, ?_⟩) ?_ ?_
       rotate_left
       ·
        intro w'
        go_simp
        with_reducible rfl
       rotate_left
       ·
        simp only [Act.put, sA_, sZ_, sS_, i64_w, i32_w]
        rfl
       refine pure_ (i := 5) (N := some 16) (v := ?_) (a' := ?_) #[true, true, true, true, true, true, false, false, false, false, false, false, false, false] rfl rfl (any_of HT_.out (by kernel_rfl)) (fun _ _ _ h => h) (Or.inl ⟨by rfl, ?_⟩) ?_ ?_
       rotate_left
       ·
        intro w'
        go_simp
        with_reducible rfl
       rotate_left
       ·
        simp only [Act.put, sA_, sZ_, sS_, i64_w, i32_w]
        rfl
       refine pure_ (i := 6) (N := some 17) (v := undef) (a' := ?_) #[true, true, true, true, true, true, true, false, false, false, false, false, false, false] rfl rfl (any_of HT_.out (by kernel_rfl)) (fun _ _ _ h => h) (Or.inr ⟨by rfl, rfl⟩) ?_ ?_
       rotate_left
       ·
        simp only [Act.put, sA_, sZ_, sS_, i64_w, i32_w]
        rfl
       refine pure_ (i := 7) (N := some 18) (v := undef) (a' := ?_) #[true, true, true, true, true, true, true, true, false, false, false, false, false, false] rfl rfl (any_of HT_.out (by kernel_rfl)) (fun _ _ _ h => h) (Or.inr ⟨by rfl, rfl⟩) ?_ ?_
       rotate_left
       ·
        simp only [Act.put, sA_, sZ_, sS_, i64_w, i32_w]
        rfl
       refine pure_ (i := 8) (N := some 19) (v := undef) (a' := ?_) #[true, true, true, true, true, true, true, true, true, false, false, false, false, false] rfl rfl (any_of HT_.out (by kernel_rfl)) (fun _ _ _ h => h) (Or.inr ⟨by rfl, rfl⟩) ?_ ?_
       rotate_left
       ·
        simp only [Act.put, sA_, sZ_, sS_, i64_w, i32_w]
        rfl
       refine pure_ (i := 9) (N := some 20) (v := undef) (a' := ?_) #[true, true, true, true, true, true, true, true, true, true, false, false, false, false] rfl rfl (any_of HT_.out (by kernel_rfl)) (fun _ _ _ h => h) (Or.inr ⟨by rfl, rfl⟩) ?_ ?_
       rotate_left
       ·
        simp only [Act.put, sA_, sZ_, sS_, i64_w, i32_w]
        rfl
       refine pure_ (i := 10) (N := some 21) (v := undef) (a' := ?_) #[true, true, true, true, true, true, true, true, true, true, true, false, false, false] rfl rfl (any_of HT_.out (by kernel_rfl)) (fun _ _ _ h => h) (Or.inr ⟨by rfl, rfl⟩) ?_ ?_
       rotate_left
       ·
        simp only [Act.put, sA_, sZ_, sS_, i64_w, i32_w]
        rfl
       refine pure_ (i := 11) (N := some 22) (v := undef) (a' := ?_) #[true, true, true, true, true, true, true, true, true, true, true, true, false, false] rfl rfl (any_of HT_.out (by kernel_rfl)) (fun _ _ _ h => h) (Or.inr ⟨by rfl, rfl⟩) ?_ ?_
       rotate_left
       ·
        simp only [Act.put, sA_, sZ_, sS_, i64_w, i32_w]
        rfl
       refine pure_ (i := 12) (N := some 23) (v := undef) (a' := ?_) #[true, true, true, true, true, true, true, true, true, true, true, true, true, false] rfl rfl (any_of HT_.out (by kernel_rfl)) (fun _ _ _ h => h) (Or.inr ⟨by rfl, rfl⟩) ?_ ?_
       rotate_left
       ·
        simp only [Act.put, sA_, sZ_, sS_, i64_w, i32_w]
        rfl
       refine pure_ (i := 13) (N := some 24) (v := ?_) (a' := ?_) #[true, true, true, true, true, true, true, true, true, true, true, true, true, true] rfl rfl (any_of HT_.out (by kernel_rfl)) (fun _ _ _ h => h) (Or.inl ⟨by rfl, ?_⟩) ?_ ?_
       rotate_left
       ·
        intro w'
        go_simp
        with_reducible rfl
       rotate_left
       ·
        simp only [Act.put, sA_, sZ_, sS_, i64_w, i32_w]
        rfl
       refine done_ (done_of HT_.out (by kernel_rfl)) ?_
       try go_wp2
       go_roundg k1
       case measure => have := HK1.out; omega
       case rel => exact ⟨(wrap64 (x8_1 + 1)), E3_, H', ⟨by have := HK1.out; omega⟩, ⟨W1_⟩⟩
      ·
       replace c8 := Bool.eq_false_iff.mpr c8
       subst c8
       rw [if_neg (show ¬ (false = true) by decide)] at H
       obtain ⟨t102, A12, H⟩ := bS_ H
       try dsimp only at H
       by_cases c13 : t102 < 0
       ·
        rw [if_pos c13] at H
        have c13b0 : decide (t102 < 0) = true := decide_eq_true c13
        clear c13
        obtain rfl := Option.some.inj H
        try go_wp2
        have n0_ := Aside0.mk (zD_ HB.out)
        clear HB
        have HB := n0_
        clear n0_
        have p6 : 0 ≤ (x8_1 : Int) := oA_
        have q6 : x8_1 < (a0.size : Int) := oA_
        have hx6 := bt_at a0 x8_1
        replace p6 := eq_true p6
        replace q6 := eq_true q6
        refine start_ (n := 14) (S := fun w' => Kd.C (Kd.int .u8) w' A1 l1.length l1) (ds := []) #[false, false, false, false, false, false, false, false, false, false, false, false, false, false] (by kernel_rfl) rfl rfl (Kd.C_below HR1.out HB.out) (fun hHeld => ?_); refine with_tabW place_only.tab4 place_only.bits4 (fun HT_ HW_ => ?_)
        generalize wr.drew = w14 at HB hHeld ⊢
        refine pure_ (i := 0) (N := some 11) (v := ?_) (a' := ?_) #[true, false, false, false, false, false, false, false, false, false, false, false, false, false] rfl rfl (any_of HT_.out (by kernel_rfl)) (fun _ _ _ h => h) (Or.inl ⟨by rfl, ?_⟩) ?_ ?_
        rotate_left
        ·
         intro w'
         go_simp
         with_reducible rfl
        rotate_left
        ·
         simp only [Act.put, sA_, sZ_, sS_, i64_w, i32_w]
         rfl
        refine pure_ (i := 1) (N := some 12) (v := ?_) (a' := ?_) #[true, true, false, false, false, false, false, false, false, false, false, false, false, false] rfl rfl (any_of HT_.out (by kernel_rfl)) (fun _ _ _ h => h) (Or.inl ⟨by rfl, ?_⟩) ?_ ?_
        rotate_left
        ·
         intro w'
         go_simp
         with_reducible rfl
        rotate_left
        ·
         simp only [Act.put, sA_, sZ_, sS_, i64_w, i32_w]
         rfl
        refine take_ (i := 2) (N := some 13) (v := ?_) (a' := ?_) #[true, true, true, false, false, false, false, false, false, false, false, false, false, false] rfl rfl (take_ofW HT_.out HW_.out (by kernel_rfl)) (fun _ _ _ h => h) (Or.inl ⟨by rfl, ?_⟩) hHeld ?_ ?_
        rotate_left
        ·
         intro w' _
         go_simp
         with_reducible rfl
        rotate_left
        ·
         simp only [Act.put, sA_, sZ_, sS_, i64_w, i32_w]
         rfl
        refine one_ (i := 3) (N := some 14) #[true, true, true, true, false, false, false, false, false, false, false, false, false, false] rfl rfl (one_of HT_.out (by kernel_rfl)) (by decide) (fun K hK => ?_)
        refine goes_ Tryz.func85 (by kernel_rfl) rfl #[.int .u8 (bt a0 x8_1)] (by rfl) rfl rfl T1_ ?_
        with_reducible refine (place_letter.calls (bt a0 x8_1) false _ A7.out).mono ?_
        rintro e w15 ⟨rfl, hb⟩
        refine ⟨_, rfl, ?_⟩
        have n0_ := Aside0.mk (below_step W1_ hb)
        clear HB
        have HB := n0_
        clear n0_
        (try clear hb)
        (try clear hb2)
        (try clear hk)
        (try clear hi)
        have hcv16 := Kd.C_string (P := Tryz.prog) (A := A1) (c := c1) Tryz.underlying137 Tryz.underlying5 Tryz.underlying9 (Kd.C_below HR1.out HB.out)
        have p11 : 0 ≤ (x8_1 : Int) := oA_
        have q11 : x8_1 < (a0.size : Int) := oA_
        have hx11 := bt_at a0 x8_1
        replace p11 := eq_true p11
        replace q11 := eq_true q11
        refine hK.out _ _ (by first | exact Kd.C_below HR1.out HB.out | exact Kd.C_drewN (Kd.C_below HR1.out HB.out) _) (fun hHeld => ?_)
        clear hK K
        refine norm_ (a' := ?_) ?_ ?_
        rotate_left
        ·
         show Act.put _ (some 14) _ = _
         simp only [Act.put, sA_, sZ_, sS_, i64_w, i32_w]
         rfl
        refine pure_ (i := 4) (N := some 15) (v := ?_) (a' := ?_) #[true, true, true, true, true, false, false, false, false, false, false, false, false, false] rfl rfl (any_of HT_.out (by kernel_rfl)) (fun _ _ _ h => h) (Or.inl ⟨by rfl, ?_⟩) ?_ ?_
        rotate_left
        ·
         intro w'
         go_simp
         with_reducible rfl
        rotate_left
        ·
         simp only [Act.put, sA_, sZ_, sS_, i64_w, i32_w]
         rfl
        refine pure_ (i := 5) (N := some 16) (v := ?_) (a' := ?_) #[true, true, true, true, true, true, false, false, false, false, false, false, false, false] rfl rfl (any_of HT_.out (by kernel_rfl)) (fun _ _ _ h => h) (Or.inl ⟨by rfl, ?_⟩) ?_ ?_
        rotate_left
        ·
         intro w'
         go_simp
         with_reducible rfl
        rotate_left
        ·
         simp only [Act.put, sA_, sZ_, sS_, i64_w, i32_w]
         rfl
        refine pure_ (i := 6) (N := some 17) (v := ?_) (a' := ?_) #[true, true, true, true, true, true, true, false, false, false, false, false, false, false] rfl rfl (any_of HT_.out (by kernel_rfl)) (fun _ _ _ h => h) (Or.inl ⟨by rfl, ?_⟩) ?_ ?_
        rotate_left
        ·
         intro w'
         go_simp
         with_reducible rfl
        rotate_left
        ·
         simp only [Act.put, sA_, sZ_, sS_, i64_w, i32_w]
         rfl
        refine take_ (i := 7) (N := some 18) (v := ?_) (a' := ?_) #[true, true, true, true, true, true, true, true, false, false, false, false, false, false] rfl rfl (take_ofW HT_.out HW_.out (by kernel_rfl)) (fun _ _ _ h => h) (Or.inl ⟨by rfl, ?_⟩) hHeld ?_ ?_
        rotate_left
        ·
         intro w' hS
         have hcv := Kd.C_string (P := Tryz.prog) (A := A1) (c := c1) Tryz.underlying137 Tryz.underlying5 Tryz.underlying9 hS
         go_simp
         with_reducible rfl
        rotate_left
        ·
         simp only [Act.put, sA_, sZ_, sS_, i64_w, i32_w]
         rfl
        refine pure_ (i := 8) (N := some 19) (v := ?_) (a' := ?_) #[true, true, true, true, true, true, true, true, true, false, false, false, false, false] rfl rfl (any_of HT_.out (by kernel_rfl)) (fun _ _ _ h => h) (Or.inl ⟨by rfl, ?_⟩) ?_ ?_
        rotate_left
        ·
         intro w'
         go_simp
         with_reducible rfl
        rotate_left
        ·
         simp only [Act.put, sA_, sZ_, sS_, i64_w, i32_w]
         rfl
        refine pure_ (i := 9) (N := some 20) (v := ?_) (a' := ?_) #[true, true, true, true, true, true, true, true, true, true, false, false, false, false] rfl rfl (any_of HT_.out (by kernel_rfl)) (fun _ _ _ h => h) (Or.inl ⟨by rfl, ?_⟩) ?_ ?_
        rotate_left
        ·
         intro w'
         go_simp
         with_reducible rfl
        rotate_left
        ·
         simp only [Act.put, sA_, sZ_, sS_, i64_w, i32_w]
         rfl
        refine take_ (i := 10) (N := some 21) (v := ?_) (a' := ?_) #[true, true, true, true, true, true, true, true, true, true, true, false, false, false] rfl rfl (take_ofW HT_.out HW_.out (by kernel_rfl)) (fun _ _ _ h => h) (Or.inl ⟨by rfl, ?_⟩) hHeld ?_ ?_
        rotate_left
        ·
         intro w' _
         go_simp
         with_reducible rfl
        rotate_left
        ·
         simp only [Act.put, sA_, sZ_, sS_, i64_w, i32_w]
         rfl
        refine one_ (i := 11) (N := some 22) #[true, true, true, true, true, true, true, true, true, true, true, true, false, false] rfl rfl (one_of HT_.out (by kernel_rfl)) (by decide) (fun K hK => ?_)
        refine goes_ Tryz.func86 (by kernel_rfl) rfl #[.string (strOfNums l1), .int .u8 (bt a0 x8_1)] (by rfl) rfl rfl T1_ ?_
        with_reducible refine (strings_IndexByte.calls (strOfNums l1) (bt a0 x8_1) t102 _ A12.out).mono ?_
        rintro e w' ⟨rfl, ⟨nd, rfl⟩⟩
        refine ⟨_, rfl, ?_⟩
        refine hK.out _ _ (by first | exact Kd.C_below HR1.out HB.out | exact Kd.C_drewN (Kd.C_below HR1.out HB.out) _) (fun hHeld => ?_)
        clear hK K
        refine norm_ (a' := ?_) ?_ ?_
        rotate_left
        ·
         show Act.put _ (some 22) _ = _
         simp only [Act.put, sA_, sZ_, sS_, i64_w, i32_w]
         rfl
        refine pure_ (i := 12) (N := some 23) (v := ?_) (a' := ?_) #[true, true, true, true, true, true, true, true, true, true, true, true, true, false] rfl rfl (any_of HT_.out (by kernel_rfl)) (fun _ _ _ h => h) (Or.inl ⟨by rfl, ?_⟩) ?_ ?_
        rotate_left
        ·
         intro w'
         go_simp
         with_reducible rfl
        rotate_left
        ·
         simp only [Act.put, sA_, sZ_, sS_, i64_w, i32_w]
         rfl
        refine pure_ (i := 13) (N := some 24) (v := ?_) (a' := ?_) #[true, true, true, true, true, true, true, true, true, true, true, true, true, true] rfl rfl (any_of HT_.out (by kernel_rfl)) (fun _ _ _ h => h) (Or.inl ⟨by rfl, ?_⟩) ?_ ?_
        rotate_left
        ·
         intro w'
         go_simp
         with_reducible rfl
        rotate_left
        ·
         simp only [Act.put, sA_, sZ_, sS_, i64_w, i32_w]
         rfl
        refine done_ (done_of HT_.out (by kernel_rfl)) ?_
        try go_wp2
        go_ret
        exact ⟨E1_, W1_⟩
       ·
        rw [if_neg c13] at H
        have c13b0 : decide (t102 < 0) = false := decide_eq_false c13
        clear c13
        have H' := Aside0.mk H
        clear H
        try go_wp2
        have n0_ := Aside0.mk (zD_ HB.out)
        clear HB
        have HB := n0_
        clear n0_
        have p6 : 0 ≤ (x8_1 : Int) := oA_
        have q6 : x8_1 < (a0.size : Int) := oA_
        have hx6 := bt_at a0 x8_1
        replace p6 := eq_true p6
        replace q6 := eq_true q6
        refine start_ (n := 14) (S := fun w' => Kd.C (Kd.int .u8) w' A1 l1.length l1) (ds := []) #[false, false, false, false, false, false, false, false, false, false, false, false, false, false] (by kernel_rfl) rfl rfl (Kd.C_below HR1.out HB.out) (fun hHeld => ?_); refine with_tabW place_only.tab4 place_only.bits4 (fun HT_ HW_ => ?_)
        generalize wr.drew = w17 at HB hHeld ⊢
        refine pure_ (i := 0) (N := some 11) (v := ?_) (a' := ?_) #[true, false, false, false, false, false, false, false, false, false, false, false, false, false] rfl rfl (any_of HT_.out (by kernel_rfl)) (fun _ _ _ h => h) (Or.inl ⟨by rfl, ?_⟩) ?_ ?_
        rotate_left
        ·
         intro w'
         go_simp
         with_reducible rfl
        rotate_left
        ·
         simp only [Act.put, sA_, sZ_, sS_, i64_w, i32_w]
         rfl
        refine pure_ (i := 1) (N := some 12) (v := ?_) (a' := ?_) #[true, true, false, false, false, false, false, false, false, false, false, false, false, false] rfl rfl (any_of HT_.out (by kernel_rfl)) (fun _ _ _ h => h) (Or.inl ⟨by rfl, ?_⟩) ?_ ?_
        rotate_left
        ·
         intro w'
         go_simp
         with_reducible rfl
        rotate_left
        ·
         simp only [Act.put, sA_, sZ_, sS_, i64_w, i32_w]
         rfl
        refine take_ (i := 2) (N := some 13) (v := ?_) (a' := ?_) #[true, true, true, false, false, false, false, false, false, false, false, false, false, false] rfl rfl (take_ofW HT_.out HW_.out (by kernel_rfl)) (fun _ _ _ h => h) (Or.inl ⟨by rfl, ?_⟩) hHeld ?_ ?_
        rotate_left
        ·
         intro w' _
         go_simp
         with_reducible rfl
        rotate_left
        ·
         simp only [Act.put, sA_, sZ_, sS_, i64_w, i32_w]
         rfl
        refine one_ (i := 3) (N := some 14) #[true, true, true, true, false, false, false, false, false, false, false, false, false, false] rfl rfl (one_of HT_.out (by kernel_rfl)) (by decide) (fun K hK => ?_)
        refine goes_ Tryz.func85 (by kernel_rfl) rfl #[.int .u8 (bt a0 x8_1)] (by rfl) rfl rfl T1_ ?_
        with_reducible refine (place_letter.calls (bt a0 x8_1) false _ A7.out).mono ?_
        rintro e w18 ⟨rfl, hb⟩
        refine ⟨_, rfl, ?_⟩
        have n0_ := Aside0.mk (below_step W1_ hb)
        clear HB
        have HB := n0_
        clear n0_
        (try clear hb)
        (try clear hb2)
        (try clear hk)
        (try clear hi)
        have hcv19 := Kd.C_string (P := Tryz.prog) (A := A1) (c := c1) Tryz.underlying137 Tryz.underlying5 Tryz.underlying9 (Kd.C_below HR1.out HB.out)
        have p11 : 0 ≤ (x8_1 : Int) := oA_
        have q11 : x8_1 < (a0.size : Int) := oA_
        have hx11 := bt_at a0 x8_1
        replace p11 := eq_true p11
        replace q11 := eq_true q11
        refine hK.out _ _ (by first | exact Kd.C_below HR1.out HB.out | exact Kd.C_drewN (Kd.C_below HR1.out HB.out) _) (fun hHeld => ?_)
        clear hK K
        refine norm_ (a' := ?_) ?_ ?_
        rotate_left
        ·
         show Act.put _ (some 14) _ = _
         simp only [Act.put, sA_, sZ_, sS_, i64_w, i32_w]
         rfl
        refine pure_ (i := 4) (N := some 15) (v := ?_) (a' := ?_) #[true, true, true, true, true, false, false, false, false, false, false, false, false, false] rfl rfl (any_of HT_.out (by kernel_rfl)) (fun _ _ _ h => h) (Or.inl ⟨by rfl, ?_⟩) ?_ ?_
        rotate_left
        ·
         intro w'
         go_simp
         with_reducible rfl
        rotate_left
        ·
         simp only [Act.put, sA_, sZ_, sS_, i64_w, i32_w]
         rfl
        refine pure_ (i := 5) (N := some 16) (v := ?_) (a' := ?_) #[true, true, true, true, true, true, false, false, false, false, false, false, false, false] rfl rfl (any_of HT_.out (by kernel_rfl)) (fun _ _ _ h => h) (Or.inl ⟨by rfl, ?_⟩) ?_ ?_
        rotate_left
        ·
         intro w'
         go_simp
         with_reducible rfl
        rotate_left
        ·
         simp only [Act.put, sA_, sZ_, sS_, i64_w, i32_w]
         rfl
        refine pure_ (i := 6) (N := some 17) (v := ?_) (a' := ?_) #[true, true, true, true, true, true, true, false, false, false, false, false, false, false] rfl rfl (any_of HT_.out (by kernel_rfl)) (fun _ _ _ h => h) (Or.inl ⟨by rfl, ?_⟩) ?_ ?_
        rotate_left
        ·
         intro w'
         go_simp
         with_reducible rfl
        rotate_left
        ·
         simp only [Act.put, sA_, sZ_, sS_, i64_w, i32_w]
         rfl
        refine take_ (i := 7) (N := some 18) (v := ?_) (a' := ?_) #[true, true, true, true, true, true, true, true, false, false, false, false, false, false] rfl rfl (take_ofW HT_.out HW_.out (by kernel_rfl)) (fun _ _ _ h => h) (Or.inl ⟨by rfl, ?_⟩) hHeld ?_ ?_
        rotate_left
        ·
         intro w' hS
         have hcv := Kd.C_string (P := Tryz.prog) (A := A1) (c := c1) Tryz.underlying137 Tryz.underlying5 Tryz.underlying9 hS
         go_simp
         with_reducible rfl
        rotate_left
        ·
         simp only [Act.put, sA_, sZ_, sS_, i64_w, i32_w]
         rfl
        refine pure_ (i := 8) (N := some 19) (v := ?_) (a' := ?_) #[true, true, true, true, true, true, true, true, true, false, false, false, false, false] rfl rfl (any_of HT_.out (by kernel_rfl)) (fun _ _ _ h => h) (Or.inl ⟨by rfl, ?_⟩) ?_ ?_
        rotate_left
        ·
         intro w'
         go_simp
         with_reducible rfl
        rotate_left
        ·
         simp only [Act.put, sA_, sZ_, sS_, i64_w, i32_w]
         rfl
        refine pure_ (i := 9) (N := some 20) (v := ?_) (a' := ?_) #[true, true, true, true, true, true, true, true, true, true, false, false, false, false] rfl rfl (any_of HT_.out (by kernel_rfl)) (fun _ _ _ h => h) (Or.inl ⟨by rfl, ?_⟩) ?_ ?_
        rotate_left
        ·
         intro w'
         go_simp
         with_reducible rfl
        rotate_left
        ·
         simp only [Act.put, sA_, sZ_, sS_, i64_w, i32_w]
         rfl
        refine take_ (i := 10) (N := some 21) (v := ?_) (a' := ?_) #[true, true, true, true, true, true, true, true, true, true, true, false, false, false] rfl rfl (take_ofW HT_.out HW_.out (by kernel_rfl)) (fun _ _ _ h => h) (Or.inl ⟨by rfl, ?_⟩) hHeld ?_ ?_
        rotate_left
        ·
         intro w' _
         go_simp
         with_reducible rfl
        rotate_left
        ·
         simp only [Act.put, sA_, sZ_, sS_, i64_w, i32_w]
         rfl
        refine one_ (i := 11) (N := some 22) #[true, true, true, true, true, true, true, true, true, true, true, true, false, false] rfl rfl (one_of HT_.out (by kernel_rfl)) (by decide) (fun K hK => ?_)
        refine goes_ Tryz.func86 (by kernel_rfl) rfl #[.string (strOfNums l1), .int .u8 (bt a0 x8_1)] (by rfl) rfl rfl T1_ ?_
        with_reducible refine (strings_IndexByte.calls (strOfNums l1) (bt a0 x8_1) t102 _ A12.out).mono ?_
        rintro e w' ⟨rfl, ⟨nd, rfl⟩⟩
        refine ⟨_, rfl, ?_⟩
        refine hK.out _ _ (by first | exact Kd.C_below HR1.out HB.out | exact Kd.C_drewN (Kd.C_below HR1.out HB.out) _) (fun hHeld => ?_)
        clear hK K
        refine norm_ (a' := ?_) ?_ ?_
        rotate_left
        ·
         show Act.put _ (some 22) _ = _
         simp only [Act.put, sA_, sZ_, sS_, i64_w, i32_w]
         rfl
        refine pure_ (i := 12) (N := some 23) (v := ?_) (a' := ?_) #[true, true, true, true, true, true, true, true, true, true, true, true, true, false] rfl rfl (any_of HT_.out (by kernel_rfl)) (fun _ _ _ h => h) (Or.inl ⟨by rfl, ?_⟩) ?_ ?_
        rotate_left
        ·
         intro w'
         go_simp
         with_reducible rfl
        rotate_left
        ·
         simp only [Act.put, sA_, sZ_, sS_, i64_w, i32_w]
         rfl
        refine pure_ (i := 13) (N := some 24) (v := ?_) (a' := ?_) #[true, true, true, true, true, true, true, true, true, true, true, true, true, true] rfl rfl (any_of HT_.out (by kernel_rfl)) (fun _ _ _ h => h) (Or.inl ⟨by rfl, ?_⟩) ?_ ?_
        rotate_left
        ·
         intro w'
         go_simp
         with_reducible rfl
        rotate_left
        ·
         simp only [Act.put, sA_, sZ_, sS_, i64_w, i32_w]
         rfl
        refine done_ (done_of HT_.out (by kernel_rfl)) ?_
        try go_wp2
        go_roundg k1
        case measure => have := HK1.out; omega
        case rel => exact ⟨(wrap64 (x8_1 + 1)), E3_, H', ⟨by have := HK1.out; omega⟩, ⟨W1_⟩⟩
     ·
      rw [if_neg c5] at H
      exact absurd H (by simp)
    ·
     rw [if_neg c4] at H
     exact absurd H (by simp)
   ·
    rw [if_neg c3] at H
    have c3b0 : decide (x8_1 < (a0.size : Int)) = false := decide_eq_false c3
    clear c3
    obtain rfl := Option.some.inj H
    go_wp2
    go_ret
    exact ⟨E1_, W1_⟩

/-! ### sign_Lower: function 74, by hand -/
/-! A row of bytes that a conversion has laid, and that is written then -/
structure RowB (n : Nat) (l : List UInt8) (W : World) : Prop where
 cell : ∀ j (hj : j < l.length), W.cell? ⟨n, j, none⟩ = some (.int .u8 (l[j].toNat : Int))
 froz : ∀ j, j < l.length → W.frozen? ⟨n, j, none⟩ = false
theorem RowB.set {n : Nat} {l : List UInt8} {W : World} (h : RowB n l W) (i : Nat) (hi : i < l.length) (x : Int) (h0 : 0 ≤ x) (h1 : x ≤ 255) : RowB n (l.set i (UInt8.ofNat x.toNat)) (W.setCell ⟨n, i, none⟩ (.int .u8 x)) := by
 constructor
 ·
  intro j hj0
  have hj : j < l.length := by rwa [List.length_set] at hj0
  obtain ⟨b, rfl⟩ := Int.eq_ofNat_of_zero_le h0
  rw [List.getElem_set]
  by_cases he : i = j
  ·
   subst he
   rw [if_pos rfl]
   rw [World.cell?_setCell_same (v := .int .u8 (b : Int)) (h := h.cell i hi)]
   have : b < 256 := by omega
   simp
   omega
  ·
   rw [if_neg he]
   rw [World.cell?_setCell_other (w := W) (v := .int .u8 (b : Int)) (a := ⟨n, i, none⟩) (b := ⟨n, j, none⟩) (h := by intro hh; exact he (by simpa using congrArg Addr.off hh))]
   exact h.cell j hj
 ·
  intro j hj
  rw [List.length_set] at hj
  rw [World.frozen?_setCell]
  exact h.froz j hj
def capB (s : ByteArray) (W : World) : Nat := grownCap W s.size 0 5
def bytesW (s : ByteArray) (W : World) : World := W.drew.alloc (.cells (bytesRow s (capB s W)) 5 ((bytesRow s (capB s W)).size, (bytesRow s (capB s W)).size + 1))
theorem run_bytesW (s : ByteArray) (W : World) : (convert 9 137 (.string s)).run Tryz.prog W = .ok (.slice (some ⟨W.heap.size, 0, none⟩) s.size (capB s W)) (bytesW s W) := run_bytes_of_string W 9 137 5 s Tryz.underlying9 Tryz.underlying137 Tryz.underlying5
theorem bytesW_row (s : ByteArray) (W : World) : RowB W.heap.size s.data.toList (bytesW s W) := by
 constructor
 ·
  intro j hj
  have hj' : j < s.size := by simpa using hj
  unfold bytesW
  have e := World.cell?_alloc_mark W.drew (bytesRow s (capB s W)) 5 ((bytesRow s (capB s W)).size, (bytesRow s (capB s W)).size + 1) j
  rw [show W.drew.heap.size = W.heap.size from rfl] at e
  rw [e, bytesRow_at s _ j (by simpa using hj)]
  rfl
 ·
  intro j hj
  have hj' : j < s.size := by simpa using hj
  unfold bytesW
  have e := World.frozen?_alloc_mark W.drew (bytesRow s (capB s W)) 5 (bytesRow s (capB s W)).size ((bytesRow s (capB s W)).size + 1) j
  have hs : j < (bytesRow s (capB s W)).size := by
   unfold bytesRow
   have : s.data.size = s.size := rfl
   simp
   omega
  rw [show W.drew.heap.size = W.heap.size from rfl] at e
  rw [e]
  simp
  omega
theorem bytesW_below (s : ByteArray) {w W : World} (h : Below w.heap.size w W) : Below w.heap.size w (bytesW s W) := by
 unfold bytesW
 exact (below_drew h).alloc (by have := h.size; simpa using this) _
theorem RowB.back {n : Nat} {l : List UInt8} {W : World} (h : RowB n l W) (m c : Nat) (hm : l.length = m) :
  (convert 137 9 (.slice (some ⟨n, 0, none⟩) m c)).run Tryz.prog W = .ok (.string ⟨l.toArray⟩) W := by
 subst hm
 exact run_convert_bytes_back (P := Tryz.prog) W 137 9 5 ⟨n, 0, none⟩ c l Tryz.underlying137 Tryz.underlying5 Tryz.underlying9 (fun j hj => by rw [add_plain]; exact h.cell j hj)
/-- A letter made small. -/
def lowU (c : UInt8) : UInt8 := if 65 ≤ c.toNat ∧ c.toNat ≤ 90 then UInt8.ofNat (c.toNat + 32) else c
def lowL (l : List UInt8) : List UInt8 := l.map lowU
def lowB (s : ByteArray) : ByteArray := ⟨(lowL s.data.toList).toArray⟩
def lowTo (l : List UInt8) (k : Nat) : List UInt8 := (l.take k).map lowU ++ l.drop k
theorem lowTo_len (l : List UInt8) (k : Nat) : (lowTo l k).length = l.length := by simp [lowTo]; omega
theorem lowTo_at (l : List UInt8) (k : Nat) (h : k < l.length) : (lowTo l k)[k]'(by rw [lowTo_len]; exact h) = l[k] := by
 have e : ((l.take k).map lowU).length = k := by simp; omega
 unfold lowTo
 have e2 : k - ((l.take k).map lowU).length = 0 := by omega
 rw [List.getElem_append_right (by omega)]
 simp only [e2, List.getElem_drop, Nat.add_zero]
theorem lowTo_succ (l : List UInt8) (k : Nat) (h : k < l.length) : lowTo l (k + 1) = (lowTo l k).set k (lowU l[k]) := by
 have e : ((l.take k).map lowU).length = k := by simp; omega
 unfold lowTo
 rw [List.set_append_right _ _ (by omega), e, Nat.sub_self, List.drop_eq_getElem_cons h, List.take_succ_eq_append_getElem h, sZ_, List.map_append, List.append_assoc]
 rfl
theorem lowTo_same (l : List UInt8) (k : Nat) (h : k < l.length) (hu : lowU l[k] = l[k]) : lowTo l (k + 1) = lowTo l k := by
 rw [lowTo_succ l k h, hu, ← lowTo_at l k h, List.set_getElem_self]
theorem lowTo_all (l : List UInt8) : lowTo l l.length = lowL l := by simp [lowTo, lowL]
def sign_Lower.f (a0 : ByteArray) : Option ByteArray := if a0.size ≤ 140737488351232 then some (lowB a0) else none
set_option maxHeartbeats 2000000 in
set_option maxRecDepth 100000 in
theorem sign_Lower.calls (a0 : ByteArray) (r : ByteArray) (w : World) (h : sign_Lower.f a0 = some r) :
  Calls Tryz.prog 74 #[.string a0] w fun e w' => e = .returned (.string r) ∧ Below w.heap.size w w' := by
 unfold sign_Lower.f at h
 by_cases hbig : a0.size ≤ 140737488351232
 case neg => rw [if_neg hbig] at h; cases h
 rw [if_pos hbig] at h
 obtain rfl := Option.some.inj h
 clear h
 have kb := run_bytesW a0
 have hsz : a0.size = a0.data.toList.length := by simp
 have HSZ := Aside0.mk hsz
 clear hsz
 go_enter Tryz.func74, Tryz.ntmps74
 go_wp2
 have hrow0 := bytesW_row a0 w
 have hbel0 := bytesW_below a0 (Below.refl w.heap.size w)
 generalize bytesW a0 w = w1 at *
 generalize capB a0 w = cp at *
 clear kb
 go_loopw [10] (fun i wr => ∃ k : Nat, k ≤ a0.size ∧ i = .int .i64 k ∧ Aside0 (RowB w.heap.size (lowTo a0.data.toList k) wr) ∧ Aside0 (Below w.heap.size w wr)) (fun i _ => a0.size - (intOf i).toNat)
 case atStart => exact ⟨0, Nat.zero_le _, rfl, ⟨by simpa [lowTo] using hrow0⟩, ⟨hbel0⟩⟩
 case round =>
  obtain ⟨k, hk, rfl, hrow, hbel⟩ := hrel
  by_cases hlt : k < a0.size
  ·
   have hl : k < a0.data.toList.length := by rw [← HSZ.out]; exact hlt
   have hll : k < (lowTo a0.data.toList k).length := by rw [lowTo_len]; exact hl
   have hcell := hrow.out.cell k hll
   have hfr := hrow.out.froz k hll
   rw [lowTo_at _ _ hl] at hcell
   obtain ⟨c, hc⟩ : ∃ c, c = a0.data.toList[k] := ⟨_, rfl⟩
   have HC := Aside0.mk hc
   rw [← hc] at hcell
   clear hc
   have hc255 : c.toNat < 256 := c.toNat_lt
   have hc0 : (0 : Int) ≤ (c.toNat : Int) := by omega
   have next : ∀ x : Int, 0 ≤ x → x ≤ 255 → UInt8.ofNat x.toNat = lowU c → RowB w.heap.size (lowTo a0.data.toList (k + 1)) (wr.setCell ⟨w.heap.size, k, none⟩ (.int .u8 x)) := by
    intro x h0 h1 hx
    rw [lowTo_succ _ _ hl, ← HC.out, ← hx]
    exact hrow.out.set k hll x h0 h1
   have stay : lowU c = c → RowB w.heap.size (lowTo a0.data.toList (k + 1)) wr := by
    intro hx
    rw [lowTo_same _ _ hl (by rw [← HC.out]; exact hx)]
    exact hrow.out
   have NX := Aside0.mk next
   have ST := Aside0.mk stay
   clear next stay
   have hbs : Aside0 (∀ x, Below w.heap.size w (wr.setCell ⟨w.heap.size, k, none⟩ x)) := ⟨fun x => hbel.out.setCell (Nat.le_refl _) x⟩
   obtain ⟨z, hz⟩ : ∃ z : Int, z = (c.toNat : Int) := ⟨_, rfl⟩
   rw [← hz] at hcell
   have p5 : ((0 : Int) ≤ (k : Int)) = True := eq_true (by omega)
   have q5 : ((k : Int) < (a0.size : Int)) = True := eq_true (by omega)
   have hw1 : wrap64 ((k : Int) + 1) = ((k + 1 : Nat) : Int) := by unfold wrap64; omega
   have hd : Aside0 (¬ (65 ≤ c.toNat ∧ c.toNat ≤ 90) → lowU c = c) := ⟨fun hn => by unfold lowU; rw [if_neg hn]⟩
   have hu : Aside0 (65 ≤ c.toNat ∧ c.toNat ≤ 90 → lowU c = UInt8.ofNat (c.toNat + 32)) := ⟨fun hn => by unfold lowU; rw [if_pos hn]⟩
   have HZ := Aside0.mk hz
   clear hc255 hc0 hz
   by_cases h1 : z ≥ 65
   ·
    have d1 : decide (z ≥ 65) = true := decide_eq_true h1
    by_cases h2 : z ≤ 90
    ·
     have d2 : decide (z ≤ 90) = true := decide_eq_true h2
     have hz2 := Aside0.mk (And.intro h1 h2)
     clear h1 h2
     go_wp2
     go_roundw
     case rel =>
      have hz := HZ.out
      obtain ⟨h1, h2⟩ := hz2.out
      refine ⟨k + 1, by omega, by simp, ⟨NX.out _ (by omega) (by omega) ?_⟩, ⟨hbs.out _⟩⟩
      rw [hu.out ⟨by omega, by omega⟩]
      congr 1
      omega
     case measure => simp [intOf]; omega
    ·
     have d2 : decide (z ≤ 90) = false := decide_eq_false h2
     have hn : Aside0 (¬ (65 ≤ c.toNat ∧ c.toNat ≤ 90)) := ⟨by have := HZ.out; omega⟩
     clear h1 h2
     go_wp2
     go_roundw
     case rel => exact ⟨k + 1, by omega, by simp, ⟨ST.out (hd.out hn.out)⟩, hbel⟩
     case measure => simp [intOf]; omega
   ·
    have d1 : decide (z ≥ 65) = false := decide_eq_false h1
    have hn : Aside0 (¬ (65 ≤ c.toNat ∧ c.toNat ≤ 90)) := ⟨by have := HZ.out; omega⟩
    clear h1
    go_wp2
    go_roundw
    case rel => exact ⟨k + 1, by omega, by simp, ⟨ST.out (hd.out hn.out)⟩, hbel⟩
    case measure => simp [intOf]; omega
  ·
   obtain rfl : k = a0.size := by omega
   have hrow' := hrow.out
   rw [HSZ.out, lowTo_all] at hrow'
   have hback := hrow'.back a0.size cp (by rw [HSZ.out]; simp [lowL])
   have q5 : ¬ ((a0.size : Int) < (a0.size : Int)) := by omega
   go_wp2
   go_ret
   exact ⟨rfl, hbel.out⟩

/-! ### strings_TrimLeft: function 75, by hand -/
def strings_TrimLeft.f (a0 a1 : ByteArray) : Option ByteArray := if a1 = ⟨#[48]⟩ then some ⟨(Lib.trimLeftB a0.data.toList 48).toArray⟩ else none
theorem strings_TrimLeft.calls (a0 a1 : ByteArray) (r : ByteArray) (w : World) (h : strings_TrimLeft.f a0 a1 = some r) :
  Calls Tryz.prog 75 #[.string a0, .string a1] w fun e w' => e = .returned (.string r) ∧ Below w.heap.size w w' := by
 unfold strings_TrimLeft.f at h
 split at h
 case isTrue hok =>
  obtain rfl := Option.some.inj h
  rw [hok]
  refine (Tryz.strings_TrimLeft_one a0 48 (by decide) w).mono ?_
  rintro e w' ⟨rfl, rfl⟩
  exact ⟨rfl, Below.refl _ _⟩
 case isFalse => cases h

end Go.Proofs.YtlncpbnadlpihaaGreatDoor.PAll
