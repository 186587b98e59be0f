-- Text by a program of this session, over what print.py prints.
import Derived.Test.YtgpekljckdgggaaGreatDoorPAllx0
import Derived.Test.YtgpekljckdgggaaGreatDoorPAllx7
namespace Go.Proofs.YtgpekljckdgggaaGreatDoor.PAll
open Go.RowKit Go.Proofs.YtgpekljckdgggaaGreatDoorW.PrintWords Go.Proofs.YtgpekljckdgggaaGreatDoorW.PrintLast Go.Proofs.YtgpekljckdgggaaGreatDoorW.PrintMore
attribute [local go_sem] max2_int min2_int max_two min_two max_three min_three max_four min_four   -- for this text's walks alone
set_option linter.unusedVariables false
set_option linter.unusedSimpArgs false

/-! ### pantrylaw12_digits: function 24 -/
def pantrylaw12_digits.f : Nat → Int → Option (ByteArray)
  | 0, _ => none
  | k + 1, a0 => if a0 < 10 then (some (strOfNums (([(wrap64 (48 + a0)) % 256] : List Int)))) else ((pantrylaw12_digits.f k (wrap64 (Int.tdiv a0 10))).bind fun t268 => ((some (([(wrap64 (48 + (Int.tmod a0 10))) % 256] : List Int) : List Int)).bind fun y269 => (if t268.size + (strOfNums y269).size ≤ 9223372036854775807 then (some (t268 ++ (strOfNums y269))) else (none))))
theorem pantrylaw12_digits.mono_l : ∀ k, (∀ y0, LeO (pantrylaw12_digits.f k y0) (pantrylaw12_digits.f (k + 1) y0))
  | 0 => fun _ r h => by simp [pantrylaw12_digits.f] at h
  | k + 1 => by
    have ih0 := pantrylaw12_digits.mono_l k
    · intro y0
      unfold pantrylaw12_digits.f
      repeat' first
      | (with_reducible exact ih0 _)
      | (with_reducible exact LeO.refl _)
      | (with_reducible exact LeO.none _)
      | (with_reducible refine LeO.ite ?_ ?_)
      | (with_reducible refine LeO.bind ?_ (fun _ => ?_))
      | exact ih0 _
      | exact LeO.none _
      | refine LeO.ite ?_ ?_
      | refine LeO.bind ?_ (fun _ => ?_)
theorem pantrylaw12_digits.mono : ∀ a0 k, LeO (pantrylaw12_digits.f k a0) (pantrylaw12_digits.f (k + 1) a0) := by
  intro a0 k
  have ih0 := pantrylaw12_digits.mono_l k
  exact ih0 a0
def pantrylaw12_digits.T3 : Bool × List (List Nat × List Nat) := (true, [([], []), ([0], [0]), ([1], [1]), ([], []), ([3], [3]), ([4], [4]), ([5], [5]), ([6], [6]), ([7], [7]), ([2, 8], [2, 8]), ([9, 2, 0, 1, 2, 3, 4, 5, 6, 7, 8, 9], [9])])
def pantrylaw12_digits.B3 : List Nat := [0, 1, 3, 0, 8, 24, 56, 120, 248, 511, 1023]
theorem pantrylaw12_digits.tab3 : rtab .any (opsOf Tryz.f24 3) = pantrylaw12_digits.T3 := by kernel_rfl
theorem pantrylaw12_digits.bits3 : waitsOk pantrylaw12_digits.T3.2 pantrylaw12_digits.B3 = true := by kernel_rfl
set_option maxHeartbeats 8000000 in
set_option maxRecDepth 100000 in
theorem pantrylaw12_digits.calls (k : Nat) : ∀ (a0 : Int) (r : ByteArray) (w : World) (h : pantrylaw12_digits.f k a0 = some r),
    Calls Tryz.prog 24 #[.int .i64 a0] w fun e w' => e = .returned (.string r) ∧ Below w.heap.size w w' := by
  induction k using Nat.strongRecOn with
  | _ k ih =>
  intro a0 r w h
  cases k with
  | zero => exact absurd h (by simp [pantrylaw12_digits.f])
  | succ k =>
  simp only [pantrylaw12_digits.f] at h
  have HB := Aside0.mk (Below.refl w.heap.size w)
  have H : (if a0 < 10 then (some (strOfNums (([(wrap64 (48 + a0)) % 256] : List Int)))) else ((pantrylaw12_digits.f k (wrap64 (Int.tdiv a0 10))).bind fun t268 => ((some (([(wrap64 (48 + (Int.tmod a0 10))) % 256] : List Int) : List Int)).bind fun y269 => (if t268.size + (strOfNums y269).size ≤ 9223372036854775807 then (some (t268 ++ (strOfNums y269))) else (none))))) = some r := h
  clear h
  by_cases c2 : a0 < 10
  · rw [if_pos c2] at H
    have c2b0 : decide (a0 < 10) = true := decide_eq_true c2
    clear c2
    obtain ⟨y265, hy265⟩ : ∃ y_ : List Int, y_ = (([(wrap64 (48 + a0)) % 256] : List Int)) := ⟨_, rfl⟩
    replace H : (some (strOfNums y265)) = some r := by first | (rw [hy265]; with_reducible exact H) | (have H2_ := (Option.bind_some _ _).symm.trans H; rw [hy265]; with_reducible exact H2_) | (have H2_ := (Option.bind_some _ _).symm.trans H; with_reducible exact H2_) | with_reducible exact H | (rw [hy265]; exact H) | exact H
    have Ny265 := Aside0.mk hy265
    clear hy265
    obtain rfl := Option.some.inj H
    go_enter Tryz.func24, Tryz.ntmps24
    go_wp2_with (first | ((with_reducible refine gate_dst (N := 8) rfl ?_); refine Kd.R_lit (Kd.int .u8) _ 5 ?hg (N := 8) ?hd (xs := ([(wrap64 (48 + a0)) % 256] : List Int)) (inner := [.int .u8 ((wrap64 (48 + a0)) % 256)]) (ok := fun _ => True) (okp := fun _ => True) ?hr ?hp (fun _ hk => hk) trivial (Below.refl _ _) (Nat.le_refl _) (by simp) ?_; (case hd => rfl); (case hg => rfl); (case hr => first | (go_simp; done) | (go_simp; rfl)); (case hp => exact (Reps.one (show Kd.M (Kd.int .u8) _ _ _ ((wrap64 (48 + a0)) % 256) [.int .u8 ((wrap64 (48 + a0)) % 256)] from rfl) (Reps.none _ _))); intro v266 w3 ho4 hb hg_ hnew_; clear hg_ hnew_; (first | rw [← Ny265.out] at ho4 | (simp only [Int.reduceToNat] at ho4; rw [← Ny265.out] at ho4)); have n0_ := Aside0.mk (Kd.R_lower ho4 (below_size (by repeat (first | (with_reducible first | exact HB.out | apply below_alloc | apply pw_below_drewN | apply below_drew1) | exact HB.out)))); have n1_ := Aside0.mk (below_step (by repeat (first | (with_reducible first | exact HB.out | apply below_alloc | apply pw_below_drewN | apply below_drew1) | exact HB.out)) hb); clear HB; have HO267 := n0_; have HB := n1_; clear n0_ n1_; clear hb ho4; have hcv5 := own_string (P := Tryz.prog) Tryz.underlying80 Tryz.underlying5 Tryz.underlying9 (Kd.own_of_R HO267.out)))
    go_ret
    exact ⟨by first | rfl | (generalize ByteArray.toList _ = l_; cases l_ <;> rfl) | (simp [errW_none, errW_some] <;> rfl) | (simp [*, errW_none, errW_some] <;> rfl), by repeat (first | (with_reducible first | exact HB.out | apply below_alloc | apply pw_below_drewN | apply below_drew1) | exact HB.out)⟩
  · rw [if_neg c2] at H
    have c2b0 : decide (a0 < 10) = false := decide_eq_false c2
    clear c2
    replace H := Option.bind_eq_some_iff.mp H
    obtain ⟨t268, A60, H⟩ := H
    replace H : ((some (([(wrap64 (48 + (Int.tmod a0 10))) % 256] : List Int) : List Int)).bind fun y269 => (if t268.size + (strOfNums y269).size ≤ 9223372036854775807 then (some (t268 ++ (strOfNums y269))) else (none))) = some r := H
    have A6 := Aside0.mk A60
    clear A60
    obtain ⟨y269, hy269⟩ : ∃ y_ : List Int, y_ = (([(wrap64 (48 + (Int.tmod a0 10))) % 256] : List Int)) := ⟨_, rfl⟩
    replace H : (if t268.size + (strOfNums y269).size ≤ 9223372036854775807 then (some (t268 ++ (strOfNums y269))) else (none)) = some r := by first | (rw [hy269]; with_reducible exact H) | (have H2_ := (Option.bind_some _ _).symm.trans H; rw [hy269]; with_reducible exact H2_) | (have H2_ := (Option.bind_some _ _).symm.trans H; with_reducible exact H2_) | with_reducible exact H | (rw [hy269]; exact H) | exact H
    have Ny269 := Aside0.mk hy269
    clear hy269
    by_cases c7 : t268.size + (strOfNums y269).size ≤ 9223372036854775807
    · rw [if_pos c7] at H
      have c7b0 := eq_true c7
      have c7b1 : decide (t268.size + (strOfNums y269).size ≤ 9223372036854775807) = true := decide_eq_true c7
      try have c7b2 : (9223372036854775807 < t268.size + (strOfNums y269).size) = False := eq_false (Nat.not_lt.2 c7)
      obtain rfl := Option.some.inj H
      go_enter Tryz.func24, Tryz.ntmps24
      try go_wp2
      have n0_ := Aside0.mk (below_drew1 HB.out)
      clear HB
      have HB := n0_
      clear n0_
      refine start_ (n := 11) (S := fun w' => True) (ds := []) #[false, false, false, false, false, false, false, false, false, false, false] (by kernel_rfl) rfl rfl trivial (fun hHeld => ?_); refine with_tabW pantrylaw12_digits.tab3 pantrylaw12_digits.bits3 (fun HT_ HW_ => ?_)
      generalize w.drew = w8 at HB hHeld ⊢
      refine pure_ (i := 0) (N := some 10) (v := ?_) (a' := ?_) #[true, false, false, false, false, false, false, false, false, false, false] rfl rfl (any_of HT_.out (by kernel_rfl)) (fun _ _ _ h => h) (Or.inl ⟨by rfl, ?_⟩) ?_ ?_
      rotate_left
      · intro w'
        go_simp
        with_reducible rfl
      rotate_left
      · simp only [Act.put, List.setIfInBounds_toArray, List.set_cons_zero, List.set_cons_succ, i64_w, i32_w]
        rfl
      refine pure_ (i := 1) (N := some 11) (v := ?_) (a' := ?_) #[true, true, false, false, false, false, false, false, false, false, false] rfl rfl (any_of HT_.out (by kernel_rfl)) (fun _ _ _ h => h) (Or.inl ⟨by rfl, ?_⟩) ?_ ?_
      rotate_left
      · intro w'
        go_simp
        with_reducible rfl
      rotate_left
      · simp only [Act.put, List.setIfInBounds_toArray, List.set_cons_zero, List.set_cons_succ, i64_w, i32_w]
        rfl
      refine pure_ (i := 3) (N := some 13) (v := ?_) (a' := ?_) #[true, true, false, true, false, false, false, false, false, false, false] rfl rfl (any_of HT_.out (by kernel_rfl)) (fun _ _ _ h => h) (Or.inl ⟨by rfl, ?_⟩) ?_ ?_
      rotate_left
      · intro w'
        go_simp
        with_reducible rfl
      rotate_left
      · simp only [Act.put, List.setIfInBounds_toArray, List.set_cons_zero, List.set_cons_succ, i64_w, i32_w]
        rfl
      refine pure_ (i := 4) (N := some 14) (v := ?_) (a' := ?_) #[true, true, false, true, true, false, false, false, false, false, false] rfl rfl (any_of HT_.out (by kernel_rfl)) (fun _ _ _ h => h) (Or.inl ⟨by rfl, ?_⟩) ?_ ?_
      rotate_left
      · intro w'
        go_simp
        with_reducible rfl
      rotate_left
      · simp only [Act.put, List.setIfInBounds_toArray, List.set_cons_zero, List.set_cons_succ, i64_w, i32_w]
        rfl
      refine pure_ (i := 5) (N := some 15) (v := ?_) (a' := ?_) #[true, true, false, true, true, true, false, false, false, false, false] rfl rfl (any_of HT_.out (by kernel_rfl)) (fun _ _ _ h => h) (Or.inl ⟨by rfl, ?_⟩) ?_ ?_
      rotate_left
      · intro w'
        go_simp
        with_reducible rfl
      rotate_left
      · simp only [Act.put, List.setIfInBounds_toArray, List.set_cons_zero, List.set_cons_succ, i64_w, i32_w]
        rfl
      refine pure_ (i := 6) (N := some 16) (v := ?_) (a' := ?_) #[true, true, false, true, true, true, true, false, false, false, false] rfl rfl (any_of HT_.out (by kernel_rfl)) (fun _ _ _ h => h) (Or.inl ⟨by rfl, ?_⟩) ?_ ?_
      rotate_left
      · intro w'
        go_simp
        with_reducible rfl
      rotate_left
      · simp only [Act.put, List.setIfInBounds_toArray, List.set_cons_zero, List.set_cons_succ, i64_w, i32_w]
        rfl
      refine join_ (σ := Value) 2 #[true, true, true, true, true, true, true, true, true, false, false] (fun s_ => [(12, .string t268), (17, s_), (18, .string (strOfNums y269))]) (fun s_ w' => (Kd.R (Kd.int .u8) 5 w' w.heap.size (fun _ => True) s_ y269) ∧ (Below w.heap.size w w')) ?_ ?_
      rotate_left
      · intro hCont
        refine two_ (i := 2) (j := 7) (Ni := some 12) (Nj := some 17) #[true, true, true, true, true, true, true, false, false, false, false] #[true, true, false, true, true, true, true, true, false, false, false] rfl rfl rfl rfl (two_of HT_.out (by kernel_rfl)) (by decide) (by decide) (fun K hK => ?_) (fun K hK => ?_)
        · skip
          refine goes_ Tryz.func24 (by kernel_rfl) rfl #[.int .i64 (wrap64 (Int.tdiv a0 10))] (by rfl) rfl rfl (by (try simp only [List.map_toArray, List.map_cons, List.map_nil]); first | done | rfl | (simp only [List.length_drop, List.length_take]; rfl)) ?_
          with_reducible refine (ih k (by omega) (wrap64 (Int.tdiv a0 10)) t268 _ A6.out).mono ?_
          rintro e w9 ⟨rfl, hb⟩
          refine ⟨_, rfl, ?_⟩
          have n0_ := Aside0.mk (below_step (by repeat (first | (with_reducible first | exact HB.out | apply below_alloc | apply pw_below_drewN | apply below_drew1) | exact HB.out)) hb)
          clear HB
          have HB := n0_
          clear n0_
          (try clear hb)
          (try clear hb2)
          (try clear hk)
          (try clear hi)
          refine hK.out _ _ trivial (fun hHeld => ?_)
          clear hK K
          refine norm_ (a' := ?_) ?_ ?_
          rotate_left
          · show Act.put _ (some 12) _ = _
            simp only [Act.put, List.setIfInBounds_toArray, List.set_cons_zero, List.set_cons_succ, i64_w, i32_w]
            rfl
          refine one_ (i := 7) (N := some 17) #[true, true, true, true, true, true, true, true, false, false, false] rfl rfl (one_of HT_.out (by kernel_rfl)) (by decide) (fun K hK => ?_)
          refine Kd.R_lit_step (Kd.int .u8) _ 5 ?hg (N := 17) ?hd (xs := ([(wrap64 (48 + (Int.tmod a0 10))) % 256] : List Int)) (inner := [.int .u8 ((wrap64 (48 + (Int.tmod a0 10))) % 256)]) (ok := fun _ => True) (okp := fun _ => True) ?hr ?hp (fun _ hk => hk) trivial (Below.refl _ _) (Nat.le_refl _) (by simp) ?_; (case hd => rfl); (case hg => rfl); (case hr => first | (go_simp; done) | (go_simp; rfl)); (case hp => exact (Reps.one (show Kd.M (Kd.int .u8) _ _ _ ((wrap64 (48 + (Int.tmod a0 10))) % 256) [.int .u8 ((wrap64 (48 + (Int.tmod a0 10))) % 256)] from rfl) (Reps.none _ _)))
          intro v270 w10 ho11 hb hg_ hnew_
          clear hg_ hnew_
          (first | rw [← Ny269.out] at ho11 | (simp only [Int.reduceToNat] at ho11; rw [← Ny269.out] at ho11))
          have n0_ := Aside0.mk (Kd.R_lower ho11 (below_size (by repeat (first | (with_reducible first | exact HB.out | apply below_alloc | apply pw_below_drewN | apply below_drew1) | exact HB.out))))
          have n1_ := Aside0.mk (below_step (by repeat (first | (with_reducible first | exact HB.out | apply below_alloc | apply pw_below_drewN | apply below_drew1) | exact HB.out)) hb)
          clear HB
          have HO271 := n0_
          have HB := n1_
          clear n0_ n1_
          clear hb ho11
          refine hK.out _ _ trivial (fun hHeld => ?_)
          clear hK K
          refine norm_ (a' := ?_) ?_ ?_
          rotate_left
          · show Act.put _ (some 17) _ = _
            simp only [Act.put, List.setIfInBounds_toArray, List.set_cons_zero, List.set_cons_succ, i64_w, i32_w]
            rfl
          refine one_ (i := 8) (N := some 18) #[true, true, true, true, true, true, true, true, true, false, false] rfl rfl (one_of HT_.out (by kernel_rfl)) (by decide) (fun K hK => ?_)
          have hcv12 := own_string (P := Tryz.prog) Tryz.underlying80 Tryz.underlying5 Tryz.underlying9 (Kd.own_of_R HO271.out)
          refine value_ (w1 := ?_) (v := ?_) (by rfl) rfl ?_ ?_
          rotate_left 2
          · go_simp
            constructor
            · rfl
            · rfl
          clear hcv12
          refine hK.out _ _ trivial (fun hHeld => ?_)
          clear hK K
          refine norm_ (a' := ?_) ?_ ?_
          rotate_left
          · show Act.put _ (some 18) _ = _
            simp only [Act.put, List.setIfInBounds_toArray, List.set_cons_zero, List.set_cons_succ, i64_w, i32_w]
            rfl
          exact norm_ (by simp only [putAll, Act.put, List.setIfInBounds_toArray, List.set_cons_zero, List.set_cons_succ]) (hCont (v270) _ ⟨(by (with_reducible repeat (first | apply Kd.R_alloc | apply Kd.R_drewN | apply Kd.R_drew)); exact HO271.out), (by repeat (first | (with_reducible first | exact HB.out | apply below_alloc | apply pw_below_drewN | apply below_drew1) | exact HB.out))⟩)
        · skip
          refine Kd.R_lit_step (Kd.int .u8) _ 5 ?hg (N := 17) ?hd (xs := ([(wrap64 (48 + (Int.tmod a0 10))) % 256] : List Int)) (inner := [.int .u8 ((wrap64 (48 + (Int.tmod a0 10))) % 256)]) (ok := fun _ => True) (okp := fun _ => True) ?hr ?hp (fun _ hk => hk) trivial (Below.refl _ _) (Nat.le_refl _) (by simp) ?_; (case hd => rfl); (case hg => rfl); (case hr => first | (go_simp; done) | (go_simp; rfl)); (case hp => exact (Reps.one (show Kd.M (Kd.int .u8) _ _ _ ((wrap64 (48 + (Int.tmod a0 10))) % 256) [.int .u8 ((wrap64 (48 + (Int.tmod a0 10))) % 256)] from rfl) (Reps.none _ _)))
          intro v270 w9 ho10 hb hg_ hnew_
          clear hg_ hnew_
          (first | rw [← Ny269.out] at ho10 | (simp only [Int.reduceToNat] at ho10; rw [← Ny269.out] at ho10))
          have n0_ := Aside0.mk (Kd.R_lower ho10 (below_size (by repeat (first | (with_reducible first | exact HB.out | apply below_alloc | apply pw_below_drewN | apply below_drew1) | exact HB.out))))
          have n1_ := Aside0.mk (below_step (by repeat (first | (with_reducible first | exact HB.out | apply below_alloc | apply pw_below_drewN | apply below_drew1) | exact HB.out)) hb)
          clear HB
          have HO271 := n0_
          have HB := n1_
          clear n0_ n1_
          clear hb ho10
          refine hK.out _ _ trivial (fun hHeld => ?_)
          clear hK K
          refine norm_ (a' := ?_) ?_ ?_
          rotate_left
          · show Act.put _ (some 17) _ = _
            simp only [Act.put, List.setIfInBounds_toArray, List.set_cons_zero, List.set_cons_succ, i64_w, i32_w]
            rfl
          refine two_ (i := 2) (j := 8) (Ni := some 12) (Nj := some 18) #[true, true, true, true, true, true, true, true, false, false, false] #[true, true, false, true, true, true, true, true, true, false, false] rfl rfl rfl rfl (two_of HT_.out (by kernel_rfl)) (by decide) (by decide) (fun K hK => ?_) (fun K hK => ?_)
          · skip
            refine goes_ Tryz.func24 (by kernel_rfl) rfl #[.int .i64 (wrap64 (Int.tdiv a0 10))] (by rfl) rfl rfl (by (try simp only [List.map_toArray, List.map_cons, List.map_nil]); first | done | rfl | (simp only [List.length_drop, List.length_take]; rfl)) ?_
            with_reducible refine (ih k (by omega) (wrap64 (Int.tdiv a0 10)) t268 _ A6.out).mono ?_
            rintro e w11 ⟨rfl, hb⟩
            refine ⟨_, rfl, ?_⟩
            have n0_ := Aside0.mk (Kd.R_below (by (with_reducible repeat (first | apply Kd.R_alloc | apply Kd.R_drewN | apply Kd.R_drew)); exact HO271.out) hb)
            have n1_ := Aside0.mk (below_step (by repeat (first | (with_reducible first | exact HB.out | apply below_alloc | apply pw_below_drewN | apply below_drew1) | exact HB.out)) hb)
            clear HO271
            clear HB
            have HO271 := n0_
            have HB := n1_
            clear n0_ n1_
            (try clear hb)
            (try clear hb2)
            (try clear hk)
            (try clear hi)
            refine hK.out _ _ trivial (fun hHeld => ?_)
            clear hK K
            refine norm_ (a' := ?_) ?_ ?_
            rotate_left
            · show Act.put _ (some 12) _ = _
              simp only [Act.put, List.setIfInBounds_toArray, List.set_cons_zero, List.set_cons_succ, i64_w, i32_w]
              rfl
            refine one_ (i := 8) (N := some 18) #[true, true, true, true, true, true, true, true, true, false, false] rfl rfl (one_of HT_.out (by kernel_rfl)) (by decide) (fun K hK => ?_)
            have hcv12 := own_string (P := Tryz.prog) Tryz.underlying80 Tryz.underlying5 Tryz.underlying9 (Kd.own_of_R HO271.out)
            refine value_ (w1 := ?_) (v := ?_) (by rfl) rfl ?_ ?_
            rotate_left 2
            · go_simp
              constructor
              · rfl
              · rfl
            clear hcv12
            refine hK.out _ _ trivial (fun hHeld => ?_)
            clear hK K
            refine norm_ (a' := ?_) ?_ ?_
            rotate_left
            · show Act.put _ (some 18) _ = _
              simp only [Act.put, List.setIfInBounds_toArray, List.set_cons_zero, List.set_cons_succ, i64_w, i32_w]
              rfl
            exact norm_ (by simp only [putAll, Act.put, List.setIfInBounds_toArray, List.set_cons_zero, List.set_cons_succ]) (hCont (v270) _ ⟨(by (with_reducible repeat (first | apply Kd.R_alloc | apply Kd.R_drewN | apply Kd.R_drew)); exact HO271.out), (by repeat (first | (with_reducible first | exact HB.out | apply below_alloc | apply pw_below_drewN | apply below_drew1) | exact HB.out))⟩)
          · skip
            have hcv11 := own_string (P := Tryz.prog) Tryz.underlying80 Tryz.underlying5 Tryz.underlying9 (Kd.own_of_R HO271.out)
            refine value_ (w1 := ?_) (v := ?_) (by rfl) rfl ?_ ?_
            rotate_left 2
            · go_simp
              constructor
              · rfl
              · rfl
            clear hcv11
            refine hK.out _ _ trivial (fun hHeld => ?_)
            clear hK K
            refine norm_ (a' := ?_) ?_ ?_
            rotate_left
            · show Act.put _ (some 18) _ = _
              simp only [Act.put, List.setIfInBounds_toArray, List.set_cons_zero, List.set_cons_succ, i64_w, i32_w]
              rfl
            refine one_ (i := 2) (N := some 12) #[true, true, true, true, true, true, true, true, true, false, false] rfl rfl (one_of HT_.out (by kernel_rfl)) (by decide) (fun K hK => ?_)
            refine goes_ Tryz.func24 (by kernel_rfl) rfl #[.int .i64 (wrap64 (Int.tdiv a0 10))] (by rfl) rfl rfl (by (try simp only [List.map_toArray, List.map_cons, List.map_nil]); first | done | rfl | (simp only [List.length_drop, List.length_take]; rfl)) ?_
            with_reducible refine (ih k (by omega) (wrap64 (Int.tdiv a0 10)) t268 _ A6.out).mono ?_
            rintro e w12 ⟨rfl, hb⟩
            refine ⟨_, rfl, ?_⟩
            have n0_ := Aside0.mk (Kd.R_below (by (with_reducible repeat (first | apply Kd.R_alloc | apply Kd.R_drewN | apply Kd.R_drew)); exact HO271.out) hb)
            have n1_ := Aside0.mk (below_step (by repeat (first | (with_reducible first | exact HB.out | apply below_alloc | apply pw_below_drewN | apply below_drew1) | exact HB.out)) hb)
            clear HO271
            clear HB
            have HO271 := n0_
            have HB := n1_
            clear n0_ n1_
            (try clear hb)
            (try clear hb2)
            (try clear hk)
            (try clear hi)
            refine hK.out _ _ trivial (fun hHeld => ?_)
            clear hK K
            refine norm_ (a' := ?_) ?_ ?_
            rotate_left
            · show Act.put _ (some 12) _ = _
              simp only [Act.put, List.setIfInBounds_toArray, List.set_cons_zero, List.set_cons_succ, i64_w, i32_w]
              rfl
            exact norm_ (by simp only [putAll, Act.put, List.setIfInBounds_toArray, List.set_cons_zero, List.set_cons_succ]) (hCont (v270) _ ⟨(by (with_reducible repeat (first | apply Kd.R_alloc | apply Kd.R_drewN | apply Kd.R_drew)); exact HO271.out), (by repeat (first | (with_reducible first | exact HB.out | apply below_alloc | apply pw_below_drewN | apply below_drew1) | exact HB.out))⟩)
      rintro v270 w13 ⟨h0_, h1_⟩
      have n0_ : Aside0 (Kd.R (Kd.int .u8) 5 w13 w.heap.size (fun _ => True) v270 y269) := ⟨h0_⟩
      have n1_ : Aside0 (Below w.heap.size w w13) := ⟨h1_⟩
      clear HB
      clear h0_ h1_
      have HO271 := n0_
      have HB := n1_
      clear n0_ n1_
      have hHeld := trivial
      refine norm_ (a' := ?_) ?_ ?_
      rotate_left
      · simp only [putAll, Act.put, List.setIfInBounds_toArray, List.set_cons_zero, List.set_cons_succ]
        rfl
      refine pure_ (i := 9) (N := some 19) (v := ?_) (a' := ?_) #[true, true, true, true, true, true, true, true, true, true, false] rfl rfl (any_of HT_.out (by kernel_rfl)) (fun _ _ _ h => h) (Or.inl ⟨by rfl, ?_⟩) ?_ ?_
      rotate_left
      · intro w'
        go_simp
        with_reducible rfl
      rotate_left
      · simp only [Act.put, List.setIfInBounds_toArray, List.set_cons_zero, List.set_cons_succ, i64_w, i32_w]
        rfl
      refine pure_ (i := 10) (N := some 2) (v := ?_) (a' := ?_) #[true, true, true, true, true, true, true, true, true, true, true] rfl rfl (any_of HT_.out (by kernel_rfl)) (fun _ _ _ h => h) (Or.inl ⟨by rfl, ?_⟩) ?_ ?_
      rotate_left
      · intro w'
        go_simp
        with_reducible rfl
      rotate_left
      · simp only [Act.put, List.setIfInBounds_toArray, List.set_cons_zero, List.set_cons_succ, i64_w, i32_w]
        rfl
      refine done_ (done_of HT_.out (by kernel_rfl)) ?_
      try go_wp2
      go_ret
      exact ⟨by first | rfl | (generalize ByteArray.toList _ = l_; cases l_ <;> rfl) | (simp [errW_none, errW_some] <;> rfl) | (simp [*, errW_none, errW_some] <;> rfl), by repeat (first | (with_reducible first | exact HB.out | apply below_alloc | apply pw_below_drewN | apply below_drew1) | exact HB.out)⟩
    · rw [if_neg c7] at H
      exact absurd H (by simp)

/-! ### pantryref02_Leap: function 64 -/
def pantryref02_Leap.f (a0 : Int) : Option (Bool) := if (Int.tmod a0 400) = 0 then (some true) else (if (Int.tmod a0 4) = 0 then (some ((Int.tmod a0 100) != 0)) else (some false))
set_option maxHeartbeats 8000000 in
set_option maxRecDepth 100000 in
theorem pantryref02_Leap.calls (a0 : Int) (r : Bool) (w : World) (h : pantryref02_Leap.f a0 = some r) :
    Calls Tryz.prog 64 #[.int .i64 a0] w fun e w' => e = .returned (.bool r) ∧ Drawn0 w w' := by
  have H : (if (Int.tmod a0 400) = 0 then (some true) else (if (Int.tmod a0 4) = 0 then (some ((Int.tmod a0 100) != 0)) else (some false))) = some r := h
  clear h
  by_cases c2 : (Int.tmod a0 400) = 0
  · rw [if_pos c2] at H
    have c2b0 : ((Int.tmod a0 400) == 0) = true := beq_iff_eq.mpr c2
    have c2b1 : ((Int.tmod a0 400) != 0) = false := bne_eq_false_iff_eq.mpr c2
    clear c2
    obtain rfl := Option.some.inj H
    go_enter Tryz.func64, Tryz.ntmps64
    go_wp2
    go_ret
    exact ⟨by first | rfl | (simp; done) | (simp [*]; done) | (generalize ByteArray.toList _ = l_; cases l_ <;> rfl), by repeat (first | exact Drawn0.refl _ | apply Drawn0.step)⟩
  · rw [if_neg c2] at H
    have c2b0 : ((Int.tmod a0 400) == 0) = false := beq_eq_false_iff_ne.mpr c2
    have c2b1 : ((Int.tmod a0 400) != 0) = true := bne_iff_ne.mpr c2
    by_cases c3 : (Int.tmod a0 4) = 0
    · rw [if_pos c3] at H
      have c3b0 : ((Int.tmod a0 4) == 0) = true := beq_iff_eq.mpr c3
      have c3b1 : ((Int.tmod a0 4) != 0) = false := bne_eq_false_iff_eq.mpr c3
      clear c3
      obtain rfl := Option.some.inj H
      go_enter Tryz.func64, Tryz.ntmps64
      go_wp2
      go_ret
      exact ⟨by first | rfl | (simp; done) | (simp [*]; done) | (generalize ByteArray.toList _ = l_; cases l_ <;> rfl), by repeat (first | exact Drawn0.refl _ | apply Drawn0.step)⟩
    · rw [if_neg c3] at H
      have c3b0 : ((Int.tmod a0 4) == 0) = false := beq_eq_false_iff_ne.mpr c3
      have c3b1 : ((Int.tmod a0 4) != 0) = true := bne_iff_ne.mpr c3
      obtain rfl := Option.some.inj H
      go_enter Tryz.func64, Tryz.ntmps64
      go_wp2
      go_ret
      exact ⟨by first | rfl | (simp; done) | (simp [*]; done) | (generalize ByteArray.toList _ = l_; cases l_ <;> rfl), by repeat (first | exact Drawn0.refl _ | apply Drawn0.step)⟩

/-! ### pantryref02_Days: function 65, by hand -/
def refTab : List Int := [0, 31, 28, 31, 30, 31, 30, 31, 31, 30, 31, 30, 31]
def pantryref02_Days.f (a0 a1 : Int) : Option Int :=
  if a0 < 1970 ∨ 9999 < a0 ∨ a1 < 1 ∨ 12 < a1 then some 0 else (pantryref02_Leap.f a0).bind fun b => if a1 = 2 ∧ b = true then some 29 else some (refTab.getD a1.toNat 0)
def refCells : Array Value := #[.int .i64 0, .int .i64 31, .int .i64 28, .int .i64 31, .int .i64 30, .int .i64 31, .int .i64 30, .int .i64 31, .int .i64 31, .int .i64 30, .int .i64 31, .int .i64 30, .int .i64 31]
theorem refCells_at (m : Nat) (h : m ≤ 12) : refCells[m]? = some (.int .i64 (refTab.getD m 0)) := by
  rcases m with _ | _ | _ | _ | _ | _ | _ | _ | _ | _ | _ | _ | _ | m
  any_goals rfl
  omega
set_option maxHeartbeats 2000000 in
set_option maxRecDepth 100000 in
theorem pantryref02_Days.calls (a0 a1 : Int) (r : Int) (w : World) (h : pantryref02_Days.f a0 a1 = some r) :
    Calls Tryz.prog 65 #[.int .i64 a0, .int .i64 a1] w fun e w' => e = .returned (.int .i64 r) ∧ Below w.heap.size w w' := by
  unfold pantryref02_Days.f at h
  by_cases ho : a0 < 1970 ∨ 9999 < a0 ∨ a1 < 1 ∨ 12 < a1
  · rw [if_pos ho] at h
    obtain rfl := Option.some.inj h
    clear h
    by_cases c1 : a0 < 1970
    · have b1 := decide_eq_true c1
      go_enter Tryz.func65, Tryz.ntmps65
      go_wp2
      go_ret
      exact ⟨rfl, Below.refl _ _⟩
    · have b1 := decide_eq_false c1
      by_cases c2 : 9999 < a0
      · have b2 := decide_eq_true c2
        go_enter Tryz.func65, Tryz.ntmps65
        go_wp2
        go_ret
        exact ⟨rfl, Below.refl _ _⟩
      · have b2 := decide_eq_false c2
        by_cases c3 : a1 < 1
        · have b3 := decide_eq_true c3
          go_enter Tryz.func65, Tryz.ntmps65
          go_wp2
          go_ret
          exact ⟨rfl, Below.refl _ _⟩
        · have b3 := decide_eq_false c3
          have c4 : 12 < a1 := by omega
          have b4 := decide_eq_true c4
          go_enter Tryz.func65, Tryz.ntmps65
          go_wp2
          go_ret
          exact ⟨rfl, Below.refl _ _⟩
  · rw [if_neg ho] at h
    cases hl : pantryref02_Leap.f a0 with
    | none => rw [hl] at h; simp at h
    | some b =>
      rw [hl] at h
      simp only [Option.bind_some] at h
      have HL := Aside0.mk hl
      clear hl
      have c1 : ¬ a0 < 1970 := by omega
      have c2 : ¬ 9999 < a0 := by omega
      have c3 : ¬ a1 < 1 := by omega
      have c4 : ¬ 12 < a1 := by omega
      have b1 := decide_eq_false c1
      have b2 := decide_eq_false c2
      have b3 := decide_eq_false c3
      have b4 := decide_eq_false c4
      obtain ⟨m, rfl⟩ := Int.eq_ofNat_of_zero_le (show 0 ≤ a1 by omega)
      have hm0 : 1 ≤ m := by omega
      have hm1 : m ≤ 12 := by omega
      clear ho c1 c2 c3 c4
      have HT := Aside0.mk h
      clear h
      obtain rfl | hm2 : m = 2 ∨ m ≠ 2 := by omega
      · cases b with
        | true =>
          have hr := HT.out
          simp at hr
          subst hr
          go_enter Tryz.func65, Tryz.ntmps65
          go_wp2_with (go_at_call 64; refine (pantryref02_Leap.calls a0 true _ HL.out).mono ?_; rintro e w' ⟨rfl, ⟨nd, rfl⟩⟩)
          go_ret
          exact ⟨rfl, pw_below_drewN ((Below.refl _ _).alloc (Nat.le_refl _) _) nd⟩
        | false =>
          have hr := HT.out
          simp [refTab] at hr
          subst hr
          go_enter Tryz.func65, Tryz.ntmps65
          go_wp2_with (go_at_call 64; refine (pantryref02_Leap.calls a0 false _ HL.out).mono ?_; rintro e w' ⟨rfl, ⟨nd, rfl⟩⟩)
          go_ret
          exact ⟨rfl, pw_below_drewN ((Below.refl _ _).alloc (Nat.le_refl _) _) nd⟩
      · have hne : ((m : Int) == 2) = false := by rw [beq_eq_false_iff_ne]; omega
        have hr : refTab.getD m 0 = r := by
          have := HT.out
          rw [if_neg (by omega)] at this
          simpa using this
        have hcell : (w.alloc (.cells #[.int .i64 0, .int .i64 31, .int .i64 28, .int .i64 31, .int .i64 30, .int .i64 31, .int .i64 30, .int .i64 31, .int .i64 31, .int .i64 30, .int .i64 31, .int .i64 30, .int .i64 31] 131)).cell? ⟨w.heap.size, m, none⟩ = some (.int .i64 r) := by
          rw [Lib.cell_of_heap (heap_alloc_new w _), ← hr]
          exact refCells_at m hm1
        clear hr HT HL
        go_enter Tryz.func65, Tryz.ntmps65
        go_wp2
        go_ret
        exact ⟨rfl, (Below.refl _ _).alloc (Nat.le_refl _) _⟩

/-! ### pantryref02_Split: function 43 -/
mutual
def pantryref02_Split.j1 : Nat → Int → Int → Int → Option (Int × Int × Int × Int)
  | 0, _, _, _ => none
  | k + 1, x0, x6, x7 => pantryref02_Split.l1 k x0 x6 x7 1
def pantryref02_Split.l1 : Nat → Int → Int → Int → Int → Option (Int × Int × Int × Int)
  | 0, _, _, _, _ => none
  | k + 1, x0, x6, x7, x9 => (pantryref02_Days.f x7 x9).bind fun t273 => (if x6 ≥ t273 then ((pantryref02_Days.f x7 x9).bind fun t274 => (pantryref02_Split.l1 k x0 (wrap64 (x6 - t274)) x7 (wrap64 (x9 + 1)))) else (some (x7, x9, wrap64 (x6 + 1), Int.tmod x0 86400)))
def pantryref02_Split.l0 : Nat → Int → Int → Int → Option (Int × Int × Int × Int)
  | 0, _, _, _ => none
  | k + 1, x0, x6, x7 => (pantryref02_Leap.f x7).bind fun t272 => (if t272 = true then (if x6 < 366 then (pantryref02_Split.j1 k x0 x6 x7) else (pantryref02_Split.l0 k x0 (wrap64 (x6 - 366)) (wrap64 (x7 + 1)))) else (if x6 < 365 then (pantryref02_Split.j1 k x0 x6 x7) else (pantryref02_Split.l0 k x0 (wrap64 (x6 - 365)) (wrap64 (x7 + 1)))))
end
def pantryref02_Split.f (k : Nat) (a0 : Int) : Option (Int × Int × Int × Int) := pantryref02_Split.l0 k a0 (wrap64 (Int.tdiv a0 86400)) 1970
theorem pantryref02_Split.mono_l : ∀ k, (∀ y0 y1 y2, LeO (pantryref02_Split.j1 k y0 y1 y2) (pantryref02_Split.j1 (k + 1) y0 y1 y2)) ∧ (∀ y0 y1 y2 y3, LeO (pantryref02_Split.l1 k y0 y1 y2 y3) (pantryref02_Split.l1 (k + 1) y0 y1 y2 y3)) ∧ (∀ y0 y1 y2, LeO (pantryref02_Split.l0 k y0 y1 y2) (pantryref02_Split.l0 (k + 1) y0 y1 y2))
  | 0 => ⟨fun _ _ _ r h => by simp [pantryref02_Split.j1] at h, fun _ _ _ _ r h => by simp [pantryref02_Split.l1] at h, fun _ _ _ r h => by simp [pantryref02_Split.l0] at h⟩
  | k + 1 => by
    obtain ⟨ih0, ih1, ih2⟩ := pantryref02_Split.mono_l k
    refine ⟨?_, ?_, ?_⟩
    · intro y0 y1 y2
      unfold pantryref02_Split.j1
      repeat' first
      | (with_reducible exact ih0 _ _ _)
      | (with_reducible exact ih1 _ _ _ _)
      | (with_reducible exact ih2 _ _ _)
      | (with_reducible exact LeO.refl _)
      | (with_reducible exact LeO.none _)
      | (with_reducible refine LeO.ite ?_ ?_)
      | (with_reducible refine LeO.bind ?_ (fun _ => ?_))
      | exact ih0 _ _ _
      | exact ih1 _ _ _ _
      | exact ih2 _ _ _
      | exact LeO.none _
      | refine LeO.ite ?_ ?_
      | refine LeO.bind ?_ (fun _ => ?_)
    · intro y0 y1 y2 y3
      unfold pantryref02_Split.l1
      repeat' first
      | (with_reducible exact ih0 _ _ _)
      | (with_reducible exact ih1 _ _ _ _)
      | (with_reducible exact ih2 _ _ _)
      | (with_reducible exact LeO.refl _)
      | (with_reducible exact LeO.none _)
      | (with_reducible refine LeO.ite ?_ ?_)
      | (with_reducible refine LeO.bind ?_ (fun _ => ?_))
      | exact ih0 _ _ _
      | exact ih1 _ _ _ _
      | exact ih2 _ _ _
      | exact LeO.none _
      | refine LeO.ite ?_ ?_
      | refine LeO.bind ?_ (fun _ => ?_)
    · intro y0 y1 y2
      unfold pantryref02_Split.l0
      repeat' first
      | (with_reducible exact ih0 _ _ _)
      | (with_reducible exact ih1 _ _ _ _)
      | (with_reducible exact ih2 _ _ _)
      | (with_reducible exact LeO.refl _)
      | (with_reducible exact LeO.none _)
      | (with_reducible refine LeO.ite ?_ ?_)
      | (with_reducible refine LeO.bind ?_ (fun _ => ?_))
      | exact ih0 _ _ _
      | exact ih1 _ _ _ _
      | exact ih2 _ _ _
      | exact LeO.none _
      | refine LeO.ite ?_ ?_
      | refine LeO.bind ?_ (fun _ => ?_)
theorem pantryref02_Split.mono : ∀ a0 k, LeO (pantryref02_Split.f k a0) (pantryref02_Split.f (k + 1) a0) := by
  intro a0 k
  obtain ⟨ih0, ih1, ih2⟩ := pantryref02_Split.mono_l k
  unfold pantryref02_Split.f
  repeat' first
      | (with_reducible exact ih0 _ _ _)
      | (with_reducible exact ih1 _ _ _ _)
      | (with_reducible exact ih2 _ _ _)
      | (with_reducible exact LeO.refl _)
      | (with_reducible exact LeO.none _)
      | (with_reducible refine LeO.ite ?_ ?_)
      | (with_reducible refine LeO.bind ?_ (fun _ => ?_))
      | exact ih0 _ _ _
      | exact ih1 _ _ _ _
      | exact ih2 _ _ _
      | exact LeO.none _
      | refine LeO.ite ?_ ?_
      | refine LeO.bind ?_ (fun _ => ?_)
set_option maxHeartbeats 8000000 in
set_option maxRecDepth 100000 in
theorem pantryref02_Split.calls (k : Nat) (a0 : Int) (r1 : Int) (r2 : Int) (r3 : Int) (r4 : Int) (w : World) (h : pantryref02_Split.f k a0 = some (r1, r2, r3, r4)) :
    Calls Tryz.prog 43 #[.int .i64 a0] w fun e w' => e = .returned (.tuple #[.int .i64 r1, .int .i64 r2, .int .i64 r3, .int .i64 r4]) ∧ Below w.heap.size w w' := by
  have HB := Aside0.mk (Below.refl w.heap.size w)
  have H : (pantryref02_Split.l0 k a0 (wrap64 (Int.tdiv a0 86400)) 1970) = some (r1, r2, r3, r4) := h
  clear h
  have HC2 := Aside0.mk H
  clear H
  go_enter Tryz.func43, Tryz.ntmps43
  go_upto_block 0 with (fail)
  go_cut [6, 7] (fun v6 v7 wc => ∃ (kq : Nat) (x6_1 : Int) (x7_1 : Int), v6 = .int .i64 x6_1 ∧ v7 = .int .i64 x7_1 ∧ Aside0 (pantryref02_Split.j1 kq a0 x6_1 x7_1 = some (r1, r2, r3, r4)) ∧ Aside0 (kq ≤ k) ∧ Aside0 (Below w.heap.size w wc))
  case first =>
    have H := HC2.out
    clear HC2
    have H' := Aside0.mk H
    clear H
    go_wp2
    go_loopg [6, 7] k (fun kq v6 v7 w' => ∃ (x6_1 : Int) (x7_1 : Int), v6 = .int .i64 x6_1 ∧ v7 = .int .i64 x7_1 ∧ Aside0 (pantryref02_Split.l0 kq a0 x6_1 x7_1 = some (r1, r2, r3, r4)) ∧ Aside0 (kq ≤ k) ∧ Aside0 (Below w.heap.size w w'))
    case atStart => exact ⟨(wrap64 (Int.tdiv a0 86400)), (1970), (by first | rfl | (simp; done) | (simp [*]; done)), (by first | rfl | (simp; done) | (simp [*]; done)), H', ⟨Nat.le_refl _⟩, ⟨by repeat (first | (with_reducible first | exact HB.out | apply below_alloc | apply pw_below_drewN | apply below_drew1) | exact HB.out)⟩⟩
    case round =>
      clear H'
      try clear p2
      obtain ⟨x6_1, x7_1, rfl, rfl, HA, HK1, HB⟩ := hrel
      cases gk with
      | zero => exact absurd HA.out (by simp [pantryref02_Split.l0])
      | succ k1 =>
        have H := HA.out
        clear HA
        simp only [pantryref02_Split.l0] at H
        replace H := Option.bind_eq_some_iff.mp H
        obtain ⟨t272, A30, H⟩ := H
        replace H : (if t272 = true then (if x6_1 < 366 then (pantryref02_Split.j1 k1 a0 x6_1 x7_1) else (pantryref02_Split.l0 k1 a0 (wrap64 (x6_1 - 366)) (wrap64 (x7_1 + 1)))) else (if x6_1 < 365 then (pantryref02_Split.j1 k1 a0 x6_1 x7_1) else (pantryref02_Split.l0 k1 a0 (wrap64 (x6_1 - 365)) (wrap64 (x7_1 + 1))))) = some (r1, r2, r3, r4) := H
        have A3 := Aside0.mk A30
        clear A30
        by_cases c4 : t272 = true
        · subst c4
          have H1 : (if x6_1 < 366 then (pantryref02_Split.j1 k1 a0 x6_1 x7_1) else (pantryref02_Split.l0 k1 a0 (wrap64 (x6_1 - 366)) (wrap64 (x7_1 + 1)))) = some (r1, r2, r3, r4) := by rw [if_pos rfl] at H; exact H
          clear H
          have H := H1
          clear H1
          by_cases c5 : x6_1 < 366
          · rw [if_pos c5] at H
            have c5b0 : decide (x6_1 < 366) = true := decide_eq_true c5
            clear c5
            (first | rw [c5b0] | (simp only [i64_w, i32_w]; rw [c5b0]) | skip)
            have H' := Aside0.mk H
            clear H
            go_wp2_with (first | ((with_reducible refine gate_callee (f := 64) rfl ?_); refine goesL_ (some 13) rfl rfl Tryz.func64 (by kernel_rfl) rfl #[.int .i64 x7_1] rfl (by (try simp only [List.map_toArray, List.map_cons, List.map_nil]); first | done | rfl | (simp only [List.length_drop, List.length_take]; rfl)) ?_; (with_reducible refine (pantryref02_Leap.calls x7_1 true _ A3.out).mono ?_); rintro e w' ⟨rfl, ⟨nd, rfl⟩⟩; refine ⟨_, rfl, ?_⟩))
            go_meet
            case rel => exact ⟨_, (x6_1), (x7_1), (by first | rfl | (simp; done) | (simp [*]; done)), (by first | rfl | (simp; done) | (simp [*]; done)), H', ⟨by have := HK1.out; first | omega | exact Nat.le_refl _⟩, ⟨by repeat (first | (with_reducible first | exact HB.out | apply below_alloc | apply pw_below_drewN | apply below_drew1) | exact HB.out)⟩⟩
          · rw [if_neg c5] at H
            have c5b0 : decide (x6_1 < 366) = false := decide_eq_false c5
            clear c5
            (first | rw [c5b0] | (simp only [i64_w, i32_w]; rw [c5b0]) | skip)
            have H' := Aside0.mk H
            clear H
            go_wp2_with (first | ((with_reducible refine gate_callee (f := 64) rfl ?_); refine goesL_ (some 13) rfl rfl Tryz.func64 (by kernel_rfl) rfl #[.int .i64 x7_1] rfl (by (try simp only [List.map_toArray, List.map_cons, List.map_nil]); first | done | rfl | (simp only [List.length_drop, List.length_take]; rfl)) ?_; (with_reducible refine (pantryref02_Leap.calls x7_1 true _ A3.out).mono ?_); rintro e w' ⟨rfl, ⟨nd, rfl⟩⟩; refine ⟨_, rfl, ?_⟩))
            go_roundg k1
            case measure => have := HK1.out; omega
            case rel => exact ⟨(wrap64 (x6_1 - 366)), (wrap64 (x7_1 + 1)), (by first | rfl | (simp; done) | (simp [*]; done)), (by first | rfl | (simp; done) | (simp [*]; done)), H', ⟨by have := HK1.out; omega⟩, ⟨by repeat (first | (with_reducible first | exact HB.out | apply below_alloc | apply pw_below_drewN | apply below_drew1) | exact HB.out)⟩⟩
        · replace c4 := Bool.eq_false_iff.mpr c4
          subst c4
          have H1 : (if x6_1 < 365 then (pantryref02_Split.j1 k1 a0 x6_1 x7_1) else (pantryref02_Split.l0 k1 a0 (wrap64 (x6_1 - 365)) (wrap64 (x7_1 + 1)))) = some (r1, r2, r3, r4) := by rw [if_neg (show ¬ (false = true) by decide)] at H; exact H
          clear H
          have H := H1
          clear H1
          by_cases c6 : x6_1 < 365
          · rw [if_pos c6] at H
            have c6b0 : decide (x6_1 < 365) = true := decide_eq_true c6
            clear c6
            have H' := Aside0.mk H
            clear H
            go_wp2_with (first | ((with_reducible refine gate_callee (f := 64) rfl ?_); refine goesL_ (some 13) rfl rfl Tryz.func64 (by kernel_rfl) rfl #[.int .i64 x7_1] rfl (by (try simp only [List.map_toArray, List.map_cons, List.map_nil]); first | done | rfl | (simp only [List.length_drop, List.length_take]; rfl)) ?_; (with_reducible refine (pantryref02_Leap.calls x7_1 false _ A3.out).mono ?_); rintro e w' ⟨rfl, ⟨nd, rfl⟩⟩; refine ⟨_, rfl, ?_⟩))
            go_meet
            case rel => exact ⟨_, (x6_1), (x7_1), (by first | rfl | (simp; done) | (simp [*]; done)), (by first | rfl | (simp; done) | (simp [*]; done)), H', ⟨by have := HK1.out; first | omega | exact Nat.le_refl _⟩, ⟨by repeat (first | (with_reducible first | exact HB.out | apply below_alloc | apply pw_below_drewN | apply below_drew1) | exact HB.out)⟩⟩
          · rw [if_neg c6] at H
            have c6b0 : decide (x6_1 < 365) = false := decide_eq_false c6
            clear c6
            have H' := Aside0.mk H
            clear H
            go_wp2_with (first | ((with_reducible refine gate_callee (f := 64) rfl ?_); refine goesL_ (some 13) rfl rfl Tryz.func64 (by kernel_rfl) rfl #[.int .i64 x7_1] rfl (by (try simp only [List.map_toArray, List.map_cons, List.map_nil]); first | done | rfl | (simp only [List.length_drop, List.length_take]; rfl)) ?_; (with_reducible refine (pantryref02_Leap.calls x7_1 false _ A3.out).mono ?_); rintro e w' ⟨rfl, ⟨nd, rfl⟩⟩; refine ⟨_, rfl, ?_⟩))
            go_roundg k1
            case measure => have := HK1.out; omega
            case rel => exact ⟨(wrap64 (x6_1 - 365)), (wrap64 (x7_1 + 1)), (by first | rfl | (simp; done) | (simp [*]; done)), (by first | rfl | (simp; done) | (simp [*]; done)), H', ⟨by have := HK1.out; omega⟩, ⟨by repeat (first | (with_reducible first | exact HB.out | apply below_alloc | apply pw_below_drewN | apply below_drew1) | exact HB.out)⟩⟩
  case rest =>
    clear HC2
    try clear p2
    try clear c4
    try clear c5
    try clear c5b0
    try clear c6
    try clear c6b0
    try clear p6
    try clear p2
    obtain ⟨kq, x6_1, x7_1, rfl, rfl, HA, HJ1, HB⟩ := hcut
    cases kq with
    | zero => exact absurd HA.out (by simp [pantryref02_Split.j1])
    | succ kj1 =>
      have H := HA.out
      clear HA
      simp only [pantryref02_Split.j1] at H
      have H' := Aside0.mk H
      clear H
      go_wp2
      go_loopg [6, 9] kj1 (fun kq v6 v9 w' => ∃ (x6_2 : Int) (x9_2 : Int), v6 = .int .i64 x6_2 ∧ v9 = .int .i64 x9_2 ∧ Aside0 (pantryref02_Split.l1 kq a0 x6_2 x7_1 x9_2 = some (r1, r2, r3, r4)) ∧ Aside0 (kq ≤ kj1) ∧ Aside0 (Below w.heap.size w w'))
      case atStart => exact ⟨(x6_1), (1), (by first | rfl | (simp; done) | (simp [*]; done)), (by first | rfl | (simp; done) | (simp [*]; done)), H', ⟨Nat.le_refl _⟩, ⟨by repeat (first | (with_reducible first | exact HB.out | apply below_alloc | apply pw_below_drewN | apply below_drew1) | exact HB.out)⟩⟩
      case round =>
        clear H'
        try clear p2
        try clear c4
        try clear c5
        try clear c5b0
        try clear c6
        try clear c6b0
        try clear p6
        try clear p2
        try clear p6
        obtain ⟨x6_2, x9_2, rfl, rfl, HA, HK2, HB⟩ := hrel
        cases gk with
        | zero => exact absurd HA.out (by simp [pantryref02_Split.l1])
        | succ k2 =>
          have H := HA.out
          clear HA
          simp only [pantryref02_Split.l1] at H
          replace H := Option.bind_eq_some_iff.mp H
          obtain ⟨t273, A70, H⟩ := H
          replace H : (if x6_2 ≥ t273 then ((pantryref02_Days.f x7_1 x9_2).bind fun t274 => (pantryref02_Split.l1 k2 a0 (wrap64 (x6_2 - t274)) x7_1 (wrap64 (x9_2 + 1)))) else (some (x7_1, x9_2, wrap64 (x6_2 + 1), Int.tmod a0 86400))) = some (r1, r2, r3, r4) := H
          have A7 := Aside0.mk A70
          clear A70
          by_cases c8 : x6_2 ≥ t273
          · rw [if_pos c8] at H
            have c8b0 : decide (t273 ≤ x6_2) = true := decide_eq_true c8
            clear c8
            replace H := Option.bind_eq_some_iff.mp H
            obtain ⟨t274, A90, H⟩ := H
            replace H : (pantryref02_Split.l1 k2 a0 (wrap64 (x6_2 - t274)) x7_1 (wrap64 (x9_2 + 1))) = some (r1, r2, r3, r4) := H
            have A9 := Aside0.mk A90
            clear A90
            have H' := Aside0.mk H
            clear H
            go_wp2_with (first | ((with_reducible refine gate_callee (f := 65) rfl ?_); refine goesL_ (some 25) rfl rfl Tryz.func65 (by kernel_rfl) rfl #[.int .i64 x7_1, .int .i64 x9_2] rfl (by (try simp only [List.map_toArray, List.map_cons, List.map_nil]); first | done | rfl | (simp only [List.length_drop, List.length_take]; rfl)) ?_; (with_reducible refine (pantryref02_Days.calls x7_1 x9_2 t273 _ A7.out).mono ?_); rintro e w10 ⟨rfl, hb⟩; refine ⟨_, rfl, ?_⟩; have n0_ := Aside0.mk (below_step (by repeat (first | (with_reducible first | exact HB.out | apply below_alloc | apply pw_below_drewN | apply below_drew1) | exact HB.out)) hb); clear HB; have HB := n0_; clear n0_; (try clear hb); (try clear hb2); (try clear hk); (try clear hi)) | ((with_reducible refine gate_callee (f := 65) rfl ?_); refine goesL_ (some 30) rfl rfl Tryz.func65 (by kernel_rfl) rfl #[.int .i64 x7_1, .int .i64 x9_2] rfl (by (try simp only [List.map_toArray, List.map_cons, List.map_nil]); first | done | rfl | (simp only [List.length_drop, List.length_take]; rfl)) ?_; (with_reducible refine (pantryref02_Days.calls x7_1 x9_2 t274 _ A9.out).mono ?_); rintro e w11 ⟨rfl, hb⟩; refine ⟨_, rfl, ?_⟩; have n0_ := Aside0.mk (below_step (by repeat (first | (with_reducible first | exact HB.out | apply below_alloc | apply pw_below_drewN | apply below_drew1) | exact HB.out)) hb); clear HB; have HB := n0_; clear n0_; (try clear hb); (try clear hb2); (try clear hk); (try clear hi)))
            go_roundg k2
            case measure => have := HJ1.out; have := HK2.out; omega
            case rel => exact ⟨(wrap64 (x6_2 - t274)), (wrap64 (x9_2 + 1)), (by first | rfl | (simp; done) | (simp [*]; done)), (by first | rfl | (simp; done) | (simp [*]; done)), H', ⟨by have := HJ1.out; have := HK2.out; omega⟩, ⟨by repeat (first | (with_reducible first | exact HB.out | apply below_alloc | apply pw_below_drewN | apply below_drew1) | exact HB.out)⟩⟩
          · rw [if_neg c8] at H
            have c8b0 : decide (t273 ≤ x6_2) = false := decide_eq_false c8
            clear c8
            simp only [Option.some.injEq, Prod.mk.injEq] at H
            obtain ⟨rfl, rfl, rfl, rfl⟩ := H
            go_wp2_with (first | ((with_reducible refine gate_callee (f := 65) rfl ?_); refine goesL_ (some 25) rfl rfl Tryz.func65 (by kernel_rfl) rfl #[.int .i64 x7_1, .int .i64 x9_2] rfl (by (try simp only [List.map_toArray, List.map_cons, List.map_nil]); first | done | rfl | (simp only [List.length_drop, List.length_take]; rfl)) ?_; (with_reducible refine (pantryref02_Days.calls x7_1 x9_2 t273 _ A7.out).mono ?_); rintro e w12 ⟨rfl, hb⟩; refine ⟨_, rfl, ?_⟩; have n0_ := Aside0.mk (below_step (by repeat (first | (with_reducible first | exact HB.out | apply below_alloc | apply pw_below_drewN | apply below_drew1) | exact HB.out)) hb); clear HB; have HB := n0_; clear n0_; (try clear hb); (try clear hb2); (try clear hk); (try clear hi)))
            refine bodyPost_ret (results_list (rs := [.tmp 2, .tmp 3, .tmp 4, .tmp 5]) rfl (by simp) (.tmp (.tmp (.tmp (.tmp .nil))))) rfl ?_
            exact ⟨by first | rfl | (generalize ByteArray.toList _ = l_; cases l_ <;> rfl) | (simp [errW_none, errW_some] <;> rfl) | (simp [*, errW_none, errW_some] <;> rfl), by repeat (first | (with_reducible first | exact HB.out | apply below_alloc | apply pw_below_drewN | apply below_drew1) | exact HB.out)⟩

/-! ### pantryref02_two: function 44 -/
def pantryref02_two.f (a0 : Int) : Option (ByteArray) := some (strOfNums (([(wrap64 (48 + (wrap64 (Int.tdiv a0 10)))) % 256, (wrap64 (48 + (Int.tmod a0 10))) % 256] : List Int)))
set_option maxHeartbeats 8000000 in
set_option maxRecDepth 100000 in
theorem pantryref02_two.calls (a0 : Int) (r : ByteArray) (w : World) (h : pantryref02_two.f a0 = some r) :
    Calls Tryz.prog 44 #[.int .i64 a0] w fun e w' => e = .returned (.string r) ∧ Below w.heap.size w w' := by
  have HB := Aside0.mk (Below.refl w.heap.size w)
  have H : (some (strOfNums (([(wrap64 (48 + (wrap64 (Int.tdiv a0 10)))) % 256, (wrap64 (48 + (Int.tmod a0 10))) % 256] : List Int)))) = some r := h
  clear h
  obtain ⟨y275, hy275⟩ : ∃ y_ : List Int, y_ = (([(wrap64 (48 + (wrap64 (Int.tdiv a0 10)))) % 256, (wrap64 (48 + (Int.tmod a0 10))) % 256] : List Int)) := ⟨_, rfl⟩
  replace H : (some (strOfNums y275)) = some r := by first | (rw [hy275]; with_reducible exact H) | (have H2_ := (Option.bind_some _ _).symm.trans H; rw [hy275]; with_reducible exact H2_) | (have H2_ := (Option.bind_some _ _).symm.trans H; with_reducible exact H2_) | with_reducible exact H | (rw [hy275]; exact H) | exact H
  have Ny275 := Aside0.mk hy275
  clear hy275
  obtain rfl := Option.some.inj H
  go_enter Tryz.func44, Tryz.ntmps44
  go_wp2_with (first | ((with_reducible refine gate_dst (N := 11) rfl ?_); refine Kd.R_lit (Kd.int .u8) _ 5 ?hg (N := 11) ?hd (xs := ([(wrap64 (48 + (wrap64 (Int.tdiv a0 10)))) % 256, (wrap64 (48 + (Int.tmod a0 10))) % 256] : List Int)) (inner := [.int .u8 ((wrap64 (48 + (wrap64 (Int.tdiv a0 10)))) % 256), .int .u8 ((wrap64 (48 + (Int.tmod a0 10))) % 256)]) (ok := fun _ => True) (okp := fun _ => True) ?hr ?hp (fun _ hk => hk) trivial (Below.refl _ _) (Nat.le_refl _) (by simp) ?_; (case hd => rfl); (case hg => rfl); (case hr => first | (go_simp; done) | (go_simp; rfl)); (case hp => exact (Reps.one (show Kd.M (Kd.int .u8) _ _ _ ((wrap64 (48 + (wrap64 (Int.tdiv a0 10)))) % 256) [.int .u8 ((wrap64 (48 + (wrap64 (Int.tdiv a0 10)))) % 256)] from rfl) (Reps.one (show Kd.M (Kd.int .u8) _ _ _ ((wrap64 (48 + (Int.tmod a0 10))) % 256) [.int .u8 ((wrap64 (48 + (Int.tmod a0 10))) % 256)] from rfl) (Reps.none _ _)))); intro v276 w2 ho3 hb hg_ hnew_; clear hg_ hnew_; (first | rw [← Ny275.out] at ho3 | (simp only [Int.reduceToNat] at ho3; rw [← Ny275.out] at ho3)); have n0_ := Aside0.mk (Kd.R_lower ho3 (below_size (by repeat (first | (with_reducible first | exact HB.out | apply below_alloc | apply pw_below_drewN | apply below_drew1) | exact HB.out)))); have n1_ := Aside0.mk (below_step (by repeat (first | (with_reducible first | exact HB.out | apply below_alloc | apply pw_below_drewN | apply below_drew1) | exact HB.out)) hb); clear HB; have HO277 := n0_; have HB := n1_; clear n0_ n1_; clear hb ho3; have hcv4 := own_string (P := Tryz.prog) Tryz.underlying80 Tryz.underlying5 Tryz.underlying9 (Kd.own_of_R HO277.out)))
  go_ret
  exact ⟨by first | rfl | (generalize ByteArray.toList _ = l_; cases l_ <;> rfl) | (simp [errW_none, errW_some] <;> rfl) | (simp [*, errW_none, errW_some] <;> rfl), by repeat (first | (with_reducible first | exact HB.out | apply below_alloc | apply pw_below_drewN | apply below_drew1) | exact HB.out)⟩

/-! ### pantryref02_Show: function 25, by hand -/
def rtwo (n : Int) : ByteArray := (pantryref02_two.f n).getD ⟨#[]⟩
theorem two_any (n : Int) (w : World) : Calls Tryz.prog 44 #[.int .i64 n] w fun e w' => e = .returned (.string (rtwo n)) ∧ Below w.heap.size w w' :=
  pantryref02_two.calls n (rtwo n) w rfl
theorem rtwo_size (n : Int) : (rtwo n).size = 2 := by
  unfold rtwo pantryref02_two.f strOfNums
  rfl
theorem szA : (⟨#[44, 32]⟩ : ByteArray).size = 2 := rfl
theorem szB : (⟨#[32]⟩ : ByteArray).size = 1 := rfl
theorem szC : (⟨#[58]⟩ : ByteArray).size = 1 := rfl
theorem szD : (⟨#[32, 71, 77, 84]⟩ : ByteArray).size = 4 := rfl
def refWeek : Array Value := #[.string ⟨#[84, 104, 117]⟩, .string ⟨#[70, 114, 105]⟩, .string ⟨#[83, 97, 116]⟩, .string ⟨#[83, 117, 110]⟩, .string ⟨#[77, 111, 110]⟩, .string ⟨#[84, 117, 101]⟩, .string ⟨#[87, 101, 100]⟩]
def refMonth : Array Value := #[.string ⟨#[]⟩, .string ⟨#[74, 97, 110]⟩, .string ⟨#[70, 101, 98]⟩, .string ⟨#[77, 97, 114]⟩, .string ⟨#[65, 112, 114]⟩, .string ⟨#[77, 97, 121]⟩, .string ⟨#[74, 117, 110]⟩, .string ⟨#[74, 117, 108]⟩, .string ⟨#[65, 117, 103]⟩, .string ⟨#[83, 101, 112]⟩, .string ⟨#[79, 99, 116]⟩, .string ⟨#[78, 111, 118]⟩, .string ⟨#[68, 101, 99]⟩]
def weekAt (q : Nat) : ByteArray := weekB.extract (q * 3) (q * 3 + 3)
def monthAt (m : Nat) : ByteArray := monthB.extract (3 * m - 3) (3 * m - 3 + 3)
theorem refWeek_at (q : Nat) (h : q ≤ 6) : refWeek[q]? = some (.string (weekAt q)) := by
  rcases q with _ | _ | _ | _ | _ | _ | _ | q
  any_goals rfl
  omega
theorem refMonth_at (m : Nat) (h0 : 1 ≤ m) (h : m ≤ 12) : refMonth[m]? = some (.string (monthAt m)) := by
  rcases m with _ | _ | _ | _ | _ | _ | _ | _ | _ | _ | _ | _ | _ | m
  · omega
  any_goals rfl
  omega
def refShowB (t y m d r : Int) : ByteArray := weekAt (t / 86400 % 7).toNat ++ ⟨#[44, 32]⟩ ++ (rtwo d) ++ ⟨#[32]⟩ ++ monthAt m.toNat ++ ⟨#[32]⟩ ++ (rtwo (y / 100)) ++ (rtwo (y % 100)) ++ ⟨#[32]⟩ ++ (rtwo (r / 3600)) ++ ⟨#[58]⟩ ++ (rtwo (r / 60 % 60)) ++ ⟨#[58]⟩ ++ (rtwo (r % 60)) ++ ⟨#[32, 71, 77, 84]⟩
def pantryref02_Show.f (k : Nat) (a0 : Int) : Option ByteArray :=
  (pantryref02_Split.f k a0).bind fun b => if ShowOk a0 b.1 b.2.1 b.2.2.1 b.2.2.2 then some (refShowB a0 b.1 b.2.1 b.2.2.1 b.2.2.2) else none
theorem pantryref02_Show.mono : ∀ a0 k, LeO (pantryref02_Show.f k a0) (pantryref02_Show.f (k + 1) a0) := by
  intro a0 k
  unfold pantryref02_Show.f
  exact LeO.bind (pantryref02_Split.mono _ _) (fun _ => LeO.refl _)
theorem run_adds {P : Program} (a b : ByteArray) (n : Nat) (ha : a.size ≤ n) (hb : b.size ≤ 4) (hn : n ≤ 100) (W : World) : (Op.stringOp .add a b).run P W = .ok (.string (a ++ b)) W := run_string_add_sum W a b (by omega)
set_option maxHeartbeats 4000000 in
set_option maxRecDepth 100000 in
theorem pantryref02_Show.calls (k : Nat) (a0 : Int) (r1 : ByteArray) (w : World) (h : pantryref02_Show.f k a0 = some r1) :
    Calls Tryz.prog 25 #[.int .i64 a0] w fun e w' => e = .returned (.string r1) ∧ Below w.heap.size w w' := by
  unfold pantryref02_Show.f at h
  cases hs : pantryref02_Split.f k a0 with
  | none => rw [hs] at h; simp at h
  | some b =>
    obtain ⟨y, m, d, r⟩ := b
    rw [hs] at h
    simp only [Option.bind_some] at h
    have HS := Aside0.mk hs
    clear hs
    by_cases hok : ShowOk a0 y m d r
    · rw [if_pos hok] at h
      have h' := Option.some.inj h
      clear h
      obtain ⟨⟨ht0, ht1⟩, ⟨hy0, hy1⟩, ⟨hm0, hm1⟩, ⟨hd0, hd1⟩, hr0, hr1⟩ := hok
      obtain ⟨m, rfl⟩ := Int.eq_ofNat_of_zero_le (show 0 ≤ m by omega)
      obtain ⟨q, hq⟩ := Int.eq_ofNat_of_zero_le (show 0 ≤ a0 / 86400 % 7 by omega)
      have hq6 : q ≤ 6 := by omega
      have hm1' : m ≤ 12 := by omega
      have hm0' : 1 ≤ m := by omega
      unfold refShowB at h'
      rw [hq, Int.toNat_natCast, Int.toNat_natCast] at h'
      have hwk : (weekAt q).size ≤ 3 := by unfold weekAt; rw [ByteArray.size_extract]; omega
      have hmo : (monthAt m).size ≤ 4 := by unfold monthAt; rw [ByteArray.size_extract]; omega
      have cW := refWeek_at q hq6
      have cM := refMonth_at m hm0' hm1'
      generalize weekAt q = wk at *
      generalize monthAt m = mo at *
      subst h'
      have HQ := Aside0.mk hq
      clear hq
      have hszw := hwk
      have hszm := hmo
      have k1 : ∀ W, (Op.stringOp .add wk ⟨#[44, 32]⟩).run Tryz.prog W = .ok (.string (wk ++ ⟨#[44, 32]⟩)) W := fun W => run_adds _ _ 60 (by first | omega | (simp only [ByteArray.size_append, rtwo_size, szA, szB, szC]; omega)) (by first | (rw [rtwo_size]; omega) | (simp only [szA, szB, szC, szD]; omega) | omega) (by omega) W
      have k2 : ∀ W, (Op.stringOp .add (wk ++ ⟨#[44, 32]⟩) (rtwo d)).run Tryz.prog W = .ok (.string (wk ++ ⟨#[44, 32]⟩ ++ (rtwo d))) W := fun W => run_adds _ _ 60 (by first | omega | (simp only [ByteArray.size_append, rtwo_size, szA, szB, szC]; omega)) (by first | (rw [rtwo_size]; omega) | (simp only [szA, szB, szC, szD]; omega) | omega) (by omega) W
      have k3 : ∀ W, (Op.stringOp .add (wk ++ ⟨#[44, 32]⟩ ++ (rtwo d)) ⟨#[32]⟩).run Tryz.prog W = .ok (.string (wk ++ ⟨#[44, 32]⟩ ++ (rtwo d) ++ ⟨#[32]⟩)) W := fun W => run_adds _ _ 60 (by first | omega | (simp only [ByteArray.size_append, rtwo_size, szA, szB, szC]; omega)) (by first | (rw [rtwo_size]; omega) | (simp only [szA, szB, szC, szD]; omega) | omega) (by omega) W
      have k4 : ∀ W, (Op.stringOp .add (wk ++ ⟨#[44, 32]⟩ ++ (rtwo d) ++ ⟨#[32]⟩) mo).run Tryz.prog W = .ok (.string (wk ++ ⟨#[44, 32]⟩ ++ (rtwo d) ++ ⟨#[32]⟩ ++ mo)) W := fun W => run_adds _ _ 60 (by first | omega | (simp only [ByteArray.size_append, rtwo_size, szA, szB, szC]; omega)) (by first | (rw [rtwo_size]; omega) | (simp only [szA, szB, szC, szD]; omega) | omega) (by omega) W
      have k5 : ∀ W, (Op.stringOp .add (wk ++ ⟨#[44, 32]⟩ ++ (rtwo d) ++ ⟨#[32]⟩ ++ mo) ⟨#[32]⟩).run Tryz.prog W = .ok (.string (wk ++ ⟨#[44, 32]⟩ ++ (rtwo d) ++ ⟨#[32]⟩ ++ mo ++ ⟨#[32]⟩)) W := fun W => run_adds _ _ 60 (by first | omega | (simp only [ByteArray.size_append, rtwo_size, szA, szB, szC]; omega)) (by first | (rw [rtwo_size]; omega) | (simp only [szA, szB, szC, szD]; omega) | omega) (by omega) W
      have k6 : ∀ W, (Op.stringOp .add (wk ++ ⟨#[44, 32]⟩ ++ (rtwo d) ++ ⟨#[32]⟩ ++ mo ++ ⟨#[32]⟩) (rtwo (y / 100))).run Tryz.prog W = .ok (.string (wk ++ ⟨#[44, 32]⟩ ++ (rtwo d) ++ ⟨#[32]⟩ ++ mo ++ ⟨#[32]⟩ ++ (rtwo (y / 100)))) W := fun W => run_adds _ _ 60 (by first | omega | (simp only [ByteArray.size_append, rtwo_size, szA, szB, szC]; omega)) (by first | (rw [rtwo_size]; omega) | (simp only [szA, szB, szC, szD]; omega) | omega) (by omega) W
      have k7 : ∀ W, (Op.stringOp .add (wk ++ ⟨#[44, 32]⟩ ++ (rtwo d) ++ ⟨#[32]⟩ ++ mo ++ ⟨#[32]⟩ ++ (rtwo (y / 100))) (rtwo (y % 100))).run Tryz.prog W = .ok (.string (wk ++ ⟨#[44, 32]⟩ ++ (rtwo d) ++ ⟨#[32]⟩ ++ mo ++ ⟨#[32]⟩ ++ (rtwo (y / 100)) ++ (rtwo (y % 100)))) W := fun W => run_adds _ _ 60 (by first | omega | (simp only [ByteArray.size_append, rtwo_size, szA, szB, szC]; omega)) (by first | (rw [rtwo_size]; omega) | (simp only [szA, szB, szC, szD]; omega) | omega) (by omega) W
      have k8 : ∀ W, (Op.stringOp .add (wk ++ ⟨#[44, 32]⟩ ++ (rtwo d) ++ ⟨#[32]⟩ ++ mo ++ ⟨#[32]⟩ ++ (rtwo (y / 100)) ++ (rtwo (y % 100))) ⟨#[32]⟩).run Tryz.prog W = .ok (.string (wk ++ ⟨#[44, 32]⟩ ++ (rtwo d) ++ ⟨#[32]⟩ ++ mo ++ ⟨#[32]⟩ ++ (rtwo (y / 100)) ++ (rtwo (y % 100)) ++ ⟨#[32]⟩)) W := fun W => run_adds _ _ 60 (by first | omega | (simp only [ByteArray.size_append, rtwo_size, szA, szB, szC]; omega)) (by first | (rw [rtwo_size]; omega) | (simp only [szA, szB, szC, szD]; omega) | omega) (by omega) W
      have k9 : ∀ W, (Op.stringOp .add (wk ++ ⟨#[44, 32]⟩ ++ (rtwo d) ++ ⟨#[32]⟩ ++ mo ++ ⟨#[32]⟩ ++ (rtwo (y / 100)) ++ (rtwo (y % 100)) ++ ⟨#[32]⟩) (rtwo (r / 3600))).run Tryz.prog W = .ok (.string (wk ++ ⟨#[44, 32]⟩ ++ (rtwo d) ++ ⟨#[32]⟩ ++ mo ++ ⟨#[32]⟩ ++ (rtwo (y / 100)) ++ (rtwo (y % 100)) ++ ⟨#[32]⟩ ++ (rtwo (r / 3600)))) W := fun W => run_adds _ _ 60 (by first | omega | (simp only [ByteArray.size_append, rtwo_size, szA, szB, szC]; omega)) (by first | (rw [rtwo_size]; omega) | (simp only [szA, szB, szC, szD]; omega) | omega) (by omega) W
      have k10 : ∀ W, (Op.stringOp .add (wk ++ ⟨#[44, 32]⟩ ++ (rtwo d) ++ ⟨#[32]⟩ ++ mo ++ ⟨#[32]⟩ ++ (rtwo (y / 100)) ++ (rtwo (y % 100)) ++ ⟨#[32]⟩ ++ (rtwo (r / 3600))) ⟨#[58]⟩).run Tryz.prog W = .ok (.string (wk ++ ⟨#[44, 32]⟩ ++ (rtwo d) ++ ⟨#[32]⟩ ++ mo ++ ⟨#[32]⟩ ++ (rtwo (y / 100)) ++ (rtwo (y % 100)) ++ ⟨#[32]⟩ ++ (rtwo (r / 3600)) ++ ⟨#[58]⟩)) W := fun W => run_adds _ _ 60 (by first | omega | (simp only [ByteArray.size_append, rtwo_size, szA, szB, szC]; omega)) (by first | (rw [rtwo_size]; omega) | (simp only [szA, szB, szC, szD]; omega) | omega) (by omega) W
      have k11 : ∀ W, (Op.stringOp .add (wk ++ ⟨#[44, 32]⟩ ++ (rtwo d) ++ ⟨#[32]⟩ ++ mo ++ ⟨#[32]⟩ ++ (rtwo (y / 100)) ++ (rtwo (y % 100)) ++ ⟨#[32]⟩ ++ (rtwo (r / 3600)) ++ ⟨#[58]⟩) (rtwo (r / 60 % 60))).run Tryz.prog W = .ok (.string (wk ++ ⟨#[44, 32]⟩ ++ (rtwo d) ++ ⟨#[32]⟩ ++ mo ++ ⟨#[32]⟩ ++ (rtwo (y / 100)) ++ (rtwo (y % 100)) ++ ⟨#[32]⟩ ++ (rtwo (r / 3600)) ++ ⟨#[58]⟩ ++ (rtwo (r / 60 % 60)))) W := fun W => run_adds _ _ 60 (by first | omega | (simp only [ByteArray.size_append, rtwo_size, szA, szB, szC]; omega)) (by first | (rw [rtwo_size]; omega) | (simp only [szA, szB, szC, szD]; omega) | omega) (by omega) W
      have k12 : ∀ W, (Op.stringOp .add (wk ++ ⟨#[44, 32]⟩ ++ (rtwo d) ++ ⟨#[32]⟩ ++ mo ++ ⟨#[32]⟩ ++ (rtwo (y / 100)) ++ (rtwo (y % 100)) ++ ⟨#[32]⟩ ++ (rtwo (r / 3600)) ++ ⟨#[58]⟩ ++ (rtwo (r / 60 % 60))) ⟨#[58]⟩).run Tryz.prog W = .ok (.string (wk ++ ⟨#[44, 32]⟩ ++ (rtwo d) ++ ⟨#[32]⟩ ++ mo ++ ⟨#[32]⟩ ++ (rtwo (y / 100)) ++ (rtwo (y % 100)) ++ ⟨#[32]⟩ ++ (rtwo (r / 3600)) ++ ⟨#[58]⟩ ++ (rtwo (r / 60 % 60)) ++ ⟨#[58]⟩)) W := fun W => run_adds _ _ 60 (by first | omega | (simp only [ByteArray.size_append, rtwo_size, szA, szB, szC]; omega)) (by first | (rw [rtwo_size]; omega) | (simp only [szA, szB, szC, szD]; omega) | omega) (by omega) W
      have k13 : ∀ W, (Op.stringOp .add (wk ++ ⟨#[44, 32]⟩ ++ (rtwo d) ++ ⟨#[32]⟩ ++ mo ++ ⟨#[32]⟩ ++ (rtwo (y / 100)) ++ (rtwo (y % 100)) ++ ⟨#[32]⟩ ++ (rtwo (r / 3600)) ++ ⟨#[58]⟩ ++ (rtwo (r / 60 % 60)) ++ ⟨#[58]⟩) (rtwo (r % 60))).run Tryz.prog W = .ok (.string (wk ++ ⟨#[44, 32]⟩ ++ (rtwo d) ++ ⟨#[32]⟩ ++ mo ++ ⟨#[32]⟩ ++ (rtwo (y / 100)) ++ (rtwo (y % 100)) ++ ⟨#[32]⟩ ++ (rtwo (r / 3600)) ++ ⟨#[58]⟩ ++ (rtwo (r / 60 % 60)) ++ ⟨#[58]⟩ ++ (rtwo (r % 60)))) W := fun W => run_adds _ _ 60 (by first | omega | (simp only [ByteArray.size_append, rtwo_size, szA, szB, szC]; omega)) (by first | (rw [rtwo_size]; omega) | (simp only [szA, szB, szC, szD]; omega) | omega) (by omega) W
      have k14 : ∀ W, (Op.stringOp .add (wk ++ ⟨#[44, 32]⟩ ++ (rtwo d) ++ ⟨#[32]⟩ ++ mo ++ ⟨#[32]⟩ ++ (rtwo (y / 100)) ++ (rtwo (y % 100)) ++ ⟨#[32]⟩ ++ (rtwo (r / 3600)) ++ ⟨#[58]⟩ ++ (rtwo (r / 60 % 60)) ++ ⟨#[58]⟩ ++ (rtwo (r % 60))) ⟨#[32, 71, 77, 84]⟩).run Tryz.prog W = .ok (.string (wk ++ ⟨#[44, 32]⟩ ++ (rtwo d) ++ ⟨#[32]⟩ ++ mo ++ ⟨#[32]⟩ ++ (rtwo (y / 100)) ++ (rtwo (y % 100)) ++ ⟨#[32]⟩ ++ (rtwo (r / 3600)) ++ ⟨#[58]⟩ ++ (rtwo (r / 60 % 60)) ++ ⟨#[58]⟩ ++ (rtwo (r % 60)) ++ ⟨#[32, 71, 77, 84]⟩)) W := fun W => run_adds _ _ 60 (by first | omega | (simp only [ByteArray.size_append, rtwo_size, szA, szB, szC]; omega)) (by first | (rw [rtwo_size]; omega) | (simp only [szA, szB, szC, szD]; omega) | omega) (by omega) W
      go_enter Tryz.func25, Tryz.ntmps25
      go_wp2_with (go_at_call 43; refine (pantryref02_Split.calls k a0 y m d r w HS.out).mono ?_; rintro e w' ⟨rfl, hb0⟩)
      have hq := HQ.out
      have hq0 : (0 : Int) ≤ (q : Int) := by omega
      have hq7 : (q : Int) < 7 := by omega
      have hm7 : (m : Int) < 13 := by omega
      have hc7 : ((w'.alloc (.cells #[.string ⟨#[84, 104, 117]⟩, .string ⟨#[70, 114, 105]⟩, .string ⟨#[83, 97, 116]⟩, .string ⟨#[83, 117, 110]⟩, .string ⟨#[77, 111, 110]⟩, .string ⟨#[84, 117, 101]⟩, .string ⟨#[87, 101, 100]⟩] 83)).alloc (.cells #[.string ⟨#[]⟩, .string ⟨#[74, 97, 110]⟩, .string ⟨#[70, 101, 98]⟩, .string ⟨#[77, 97, 114]⟩, .string ⟨#[65, 112, 114]⟩, .string ⟨#[77, 97, 121]⟩, .string ⟨#[74, 117, 110]⟩, .string ⟨#[74, 117, 108]⟩, .string ⟨#[65, 117, 103]⟩, .string ⟨#[83, 101, 112]⟩, .string ⟨#[79, 99, 116]⟩, .string ⟨#[78, 111, 118]⟩, .string ⟨#[68, 101, 99]⟩] 84)).cell? ⟨w'.heap.size, q, none⟩ = some (.string wk) := by
        rw [Lib.cell_of_heap ((Lib.alloc_old _ _ _ (by simp)).trans (heap_alloc_new w' _))]
        exact cW
      have hc13 : ((w'.alloc (.cells #[.string ⟨#[84, 104, 117]⟩, .string ⟨#[70, 114, 105]⟩, .string ⟨#[83, 97, 116]⟩, .string ⟨#[83, 117, 110]⟩, .string ⟨#[77, 111, 110]⟩, .string ⟨#[84, 117, 101]⟩, .string ⟨#[87, 101, 100]⟩] 83)).alloc (.cells #[.string ⟨#[]⟩, .string ⟨#[74, 97, 110]⟩, .string ⟨#[70, 101, 98]⟩, .string ⟨#[77, 97, 114]⟩, .string ⟨#[65, 112, 114]⟩, .string ⟨#[77, 97, 121]⟩, .string ⟨#[74, 117, 110]⟩, .string ⟨#[74, 117, 108]⟩, .string ⟨#[65, 117, 103]⟩, .string ⟨#[83, 101, 112]⟩, .string ⟨#[79, 99, 116]⟩, .string ⟨#[78, 111, 118]⟩, .string ⟨#[68, 101, 99]⟩] 84)).cell? ⟨w'.heap.size + 1, m, none⟩ = some (.string mo) := by
        have := heap_alloc_new (w'.alloc (.cells refWeek 83)) (.cells refMonth 84)
        rw [show (w'.alloc (.cells refWeek 83)).heap.size = w'.heap.size + 1 by simp] at this
        exact (Lib.cell_of_heap this m).trans cM
      have hbz : Below w.heap.size w ((w'.alloc (.cells #[.string ⟨#[84, 104, 117]⟩, .string ⟨#[70, 114, 105]⟩, .string ⟨#[83, 97, 116]⟩, .string ⟨#[83, 117, 110]⟩, .string ⟨#[77, 111, 110]⟩, .string ⟨#[84, 117, 101]⟩, .string ⟨#[87, 101, 100]⟩] 83)).alloc (.cells #[.string ⟨#[]⟩, .string ⟨#[74, 97, 110]⟩, .string ⟨#[70, 101, 98]⟩, .string ⟨#[77, 97, 114]⟩, .string ⟨#[65, 112, 114]⟩, .string ⟨#[77, 97, 121]⟩, .string ⟨#[74, 117, 110]⟩, .string ⟨#[74, 117, 108]⟩, .string ⟨#[65, 117, 103]⟩, .string ⟨#[83, 101, 112]⟩, .string ⟨#[79, 99, 116]⟩, .string ⟨#[78, 111, 118]⟩, .string ⟨#[68, 101, 99]⟩] 84)) := (hb0.alloc hb0.size _).alloc (by have := hb0.size; simp; omega) _
      generalize ((w'.alloc (.cells #[.string ⟨#[84, 104, 117]⟩, .string ⟨#[70, 114, 105]⟩, .string ⟨#[83, 97, 116]⟩, .string ⟨#[83, 117, 110]⟩, .string ⟨#[77, 111, 110]⟩, .string ⟨#[84, 117, 101]⟩, .string ⟨#[87, 101, 100]⟩] 83)).alloc (.cells #[.string ⟨#[]⟩, .string ⟨#[74, 97, 110]⟩, .string ⟨#[70, 101, 98]⟩, .string ⟨#[77, 97, 114]⟩, .string ⟨#[65, 112, 114]⟩, .string ⟨#[77, 97, 121]⟩, .string ⟨#[74, 117, 110]⟩, .string ⟨#[74, 117, 108]⟩, .string ⟨#[65, 117, 103]⟩, .string ⟨#[83, 101, 112]⟩, .string ⟨#[79, 99, 116]⟩, .string ⟨#[78, 111, 118]⟩, .string ⟨#[68, 101, 99]⟩] 84)) = wz at *
      have e20 : a0.tdiv 86400 = a0 / 86400 := Int.tdiv_eq_ediv_of_nonneg ht0
      have e20w : IntKind.i64.wrap (a0 / 86400) = a0 / 86400 := IntWalk.i64_in _ (by omega)
      have e21 : (a0 / 86400).tmod 7 = (q : Int) := by rw [Int.tmod_eq_emod_of_nonneg (by omega)]; exact hq
      have e35 : y.tdiv 100 = y / 100 := Int.tdiv_eq_ediv_of_nonneg hy0
      have e35w : IntKind.i64.wrap (y / 100) = y / 100 := IntWalk.i64_in _ (by omega)
      have e39 : y.tmod 100 = y % 100 := Int.tmod_eq_emod_of_nonneg hy0
      go_region_held3 (fun W => W.cell? ⟨w'.heap.size, q, none⟩ = some (.string wk) ∧ W.cell? ⟨w'.heap.size + 1, m, none⟩ = some (.string mo) ∧ Below w.heap.size w W)
        (first | (go_split_ands; exact ⟨pw_cell_below hbt (by assumption), pw_cell_below hbt (by assumption), below_then (by assumption) (Below.size (by assumption)) hbt⟩) | exact ⟨(by assumption : _), (by assumption : _), below_drew (by assumption)⟩ | go_keep)
        (first | (go_at_call 44; refine (two_any _ _).mono ?_; rintro e w9 ⟨rfl, hbt⟩))
      go_split_ands
      have HBQ : Aside0 (Below w.heap.size w _) := Aside0.mk (by assumption)
      have f45 : 0 ≤ r / 3600 := by omega
      have f50 : 0 ≤ r / 60 := by omega
      clear hc7 hc13
      go_wp2_with fail
      refine (two_any _ _).mono ?_
      rintro e wa ⟨rfl, hba⟩
      have HB1 := Aside0.mk (below_then HBQ.out HBQ.out.size hba)
      go_wp2_with fail
      refine (two_any _ _).mono ?_
      rintro e wb ⟨rfl, hbb⟩
      have HB2 := Aside0.mk (below_then HB1.out HB1.out.size hbb)
      go_wp2_with fail
      refine (two_any _ _).mono ?_
      rintro e wc ⟨rfl, hbc⟩
      go_wp2
      go_ret
      exact ⟨rfl, below_then HB2.out HB2.out.size hbc⟩
    · rw [if_neg hok] at h
      cases h

end Go.Proofs.YtgpekljckdgggaaGreatDoor.PAll
