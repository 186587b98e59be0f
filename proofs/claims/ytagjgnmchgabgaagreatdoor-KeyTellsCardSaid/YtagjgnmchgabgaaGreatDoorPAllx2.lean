-- Text by a program of this session, over what print.py prints.
import Derived.Test.YtagjgnmchgabgaaGreatDoorPAllx0
import Derived.Test.YtagjgnmchgabgaaGreatDoorPAllx1
namespace Go.Proofs.YtagjgnmchgabgaaGreatDoor.PAll
open Go.RowKit Go.Proofs.YtagjgnmchgabgaaGreatDoorW.PrintWords Go.Proofs.YtagjgnmchgabgaaGreatDoorW.PrintLast Go.Proofs.YtagjgnmchgabgaaGreatDoorW.PrintMore
attribute [local go_sem] max2_int min2_int max_two min_two max_three min_three max_four min_four   -- for this text's walks alone
set_option linter.unusedVariables false
set_option linter.unusedSimpArgs false

/-! ### sign_List: function 29 -/
def sign_List.l0 : Nat → ByteArray → List ByteArray → Option (List ByteArray)
  | 0, _, _ => none
  | k + 1, x0, x3 => if x0.toList = ([] : List UInt8) then (some x3) else ((sign_end.f k x0).bind fun t117 => (if 0 ≤ t117 then (if t117 ≤ (x0.size : Int) then ((sign_Trim.f (x0.extract 0 (t117 : Int).toNat)).bind fun t118 => (if t118.toList = ([] : List UInt8) then (if 0 ≤ (mn (wrap64 (t117 + 1)) (x0.size : Int)) then (if (mn (wrap64 (t117 + 1)) (x0.size : Int)) ≤ (x0.size : Int) then (sign_List.l0 k (x0.extract ((mn (wrap64 (t117 + 1)) (x0.size : Int)) : Int).toNat x0.size) x3) else (none)) else (none)) else (if x3.length < 8796093022208 then (if 0 ≤ (mn (wrap64 (t117 + 1)) (x0.size : Int)) then (if (mn (wrap64 (t117 + 1)) (x0.size : Int)) ≤ (x0.size : Int) then (sign_List.l0 k (x0.extract ((mn (wrap64 (t117 + 1)) (x0.size : Int)) : Int).toNat x0.size) (x3 ++ [t118])) else (none)) else (none)) else (none)))) else (none)) else (none)))
def sign_List.f (k : Nat) (a0 : ByteArray) : Option (List ByteArray) := sign_List.l0 k a0 ([] : List ByteArray)
theorem sign_List.mono_l : ∀ k, (∀ y0 y1, LeO (sign_List.l0 k y0 y1) (sign_List.l0 (k + 1) y0 y1))
  | 0 => fun _ _ r h => by simp [sign_List.l0] at h
  | k + 1 => by
    have ih0 := sign_List.mono_l k
    · intro y0 y1
      unfold sign_List.l0
      repeat' first
      | (with_reducible exact ih0 _ _)
      | (with_reducible exact sign_end.mono _ _)
      | (with_reducible exact LeO.refl _)
      | (with_reducible exact LeO.none _)
      | (with_reducible refine LeO.ite ?_ ?_)
      | (with_reducible refine LeO.bind ?_ (fun _ => ?_))
      | exact ih0 _ _
      | exact sign_end.mono _ _
      | exact LeO.none _
      | refine LeO.ite ?_ ?_
      | refine LeO.bind ?_ (fun _ => ?_)
theorem sign_List.mono : ∀ a0 k, LeO (sign_List.f k a0) (sign_List.f (k + 1) a0) := by
  intro a0 k
  have ih0 := sign_List.mono_l k
  unfold sign_List.f
  repeat' first
      | (with_reducible exact ih0 _ _)
      | (with_reducible exact sign_end.mono _ _)
      | (with_reducible exact LeO.refl _)
      | (with_reducible exact LeO.none _)
      | (with_reducible refine LeO.ite ?_ ?_)
      | (with_reducible refine LeO.bind ?_ (fun _ => ?_))
      | exact ih0 _ _
      | exact sign_end.mono _ _
      | exact LeO.none _
      | refine LeO.ite ?_ ?_
      | refine LeO.bind ?_ (fun _ => ?_)
set_option maxHeartbeats 8000000 in
set_option maxRecDepth 100000 in
theorem sign_List.calls (k : Nat) (a0 : ByteArray) (r : List ByteArray) (w : World) (h : sign_List.f k a0 = some r) :
    Calls Tryz.prog 29 #[.string a0] w fun e w' => ∃ v0_ : Value, e = .returned (v0_) ∧ Kd.R Kd.string 9 w' w.heap.size (fun _ => True) v0_ r ∧ Below w.heap.size w w' := by
  have HB := Aside0.mk (Below.refl w.heap.size w)
  have H : (sign_List.l0 k a0 ([] : List ByteArray)) = some r := h
  clear h
  have H' := Aside0.mk H
  clear H
  go_enter Tryz.func29, Tryz.ntmps29
  go_wp2
  go_loopg [0, 3] k (fun kq v0 v3 w' => ∃ (x0_1 : ByteArray) (x3_1 : List ByteArray), v0 = .string x0_1 ∧ Aside0 (sign_List.l0 kq x0_1 x3_1 = some r) ∧ Aside0 (kq ≤ k) ∧ Aside0 (Kd.R Kd.string 9 w' w.heap.size (fun _ => True) v3 x3_1) ∧ Aside0 (Below w.heap.size w w'))
  case atStart => exact ⟨(a0), (([] : List ByteArray)), (by first | rfl | (simp; done) | (simp [*]; done)), H', ⟨Nat.le_refl _⟩, ⟨by first | exact Kd.R_nil _ _ _ _ _ | exact Kd.N_nil _ _ _ _ _ | exact Kd.V_nil _ _ _ _ _ | exact Kd.Q_nil _ _ _ _ _ | exact Kd.S_nil _ _ _ _ _⟩, ⟨by repeat (first | (with_reducible first | exact HB.out | apply below_alloc | apply pw_below_drewN | apply below_drew1) | exact HB.out)⟩⟩
  case round =>
    clear H'
    obtain ⟨x0_1, x3_1, rfl, HA, HK1, HO_3, HB⟩ := hrel
    cases gk with
    | zero => exact absurd HA.out (by simp [sign_List.l0])
    | succ k1 =>
      have H := HA.out
      clear HA
      simp only [sign_List.l0] at H
      by_cases c2 : x0_1.toList = ([] : List UInt8)
      · rw [if_pos c2] at H
        have c2b0 : (x0_1.toList == ([] : List UInt8)) = true := beq_iff_eq.mpr c2
        have c2b1 : (x0_1.toList != ([] : List UInt8)) = false := bne_eq_false_iff_eq.mpr c2
        have c2b4 : (x0_1.toList).isEmpty = true := by have h_ := c2b1; revert h_; generalize x0_1.toList = l_; cases l_ <;> simp
        clear c2
        obtain rfl := Option.some.inj H
        go_wp2
        go_ret
        exact ⟨_, by first | rfl | (generalize ByteArray.toList _ = l_; cases l_ <;> rfl) | (simp [errW_none, errW_some] <;> rfl) | (simp [*, errW_none, errW_some] <;> rfl), by (with_reducible repeat (first | apply Kd.R_alloc | apply Kd.R_drewN | apply Kd.R_drew)); exact HO_3.out, by repeat (first | (with_reducible first | exact HB.out | apply below_alloc | apply pw_below_drewN | apply below_drew1) | exact HB.out)⟩
      · rw [if_neg c2] at H
        have c2b0 : (x0_1.toList == ([] : List UInt8)) = false := beq_eq_false_iff_ne.mpr c2
        have c2b1 : (x0_1.toList != ([] : List UInt8)) = true := bne_iff_ne.mpr c2
        have c2b4 : (x0_1.toList).isEmpty = false := by have h_ := c2b1; revert h_; generalize x0_1.toList = l_; cases l_ <;> simp
        replace H := Option.bind_eq_some_iff.mp H
        obtain ⟨t117, A30, H⟩ := H
        replace H : (if 0 ≤ t117 then (if t117 ≤ (x0_1.size : Int) then ((sign_Trim.f (x0_1.extract 0 (t117 : Int).toNat)).bind fun t118 => (if t118.toList = ([] : List UInt8) then (if 0 ≤ (mn (wrap64 (t117 + 1)) (x0_1.size : Int)) then (if (mn (wrap64 (t117 + 1)) (x0_1.size : Int)) ≤ (x0_1.size : Int) then (sign_List.l0 k1 (x0_1.extract ((mn (wrap64 (t117 + 1)) (x0_1.size : Int)) : Int).toNat x0_1.size) x3_1) else (none)) else (none)) else (if x3_1.length < 8796093022208 then (if 0 ≤ (mn (wrap64 (t117 + 1)) (x0_1.size : Int)) then (if (mn (wrap64 (t117 + 1)) (x0_1.size : Int)) ≤ (x0_1.size : Int) then (sign_List.l0 k1 (x0_1.extract ((mn (wrap64 (t117 + 1)) (x0_1.size : Int)) : Int).toNat x0_1.size) (x3_1 ++ [t118])) else (none)) else (none)) else (none)))) else (none)) else (none)) = some r := H
        have A3 := Aside0.mk A30
        clear A30
        by_cases c4 : 0 ≤ t117
        · rw [if_pos c4] at H
          have c4b0 := eq_true c4
          have c4b1 : decide (0 ≤ t117) = true := decide_eq_true c4
          clear c4
          by_cases c5 : t117 ≤ (x0_1.size : Int)
          · rw [if_pos c5] at H
            have c5b0 := eq_true c5
            have c5b1 : decide (t117 ≤ (x0_1.size : Int)) = true := decide_eq_true c5
            clear c5
            replace H := Option.bind_eq_some_iff.mp H
            obtain ⟨t118, A60, H⟩ := H
            replace H : (if t118.toList = ([] : List UInt8) then (if 0 ≤ (mn (wrap64 (t117 + 1)) (x0_1.size : Int)) then (if (mn (wrap64 (t117 + 1)) (x0_1.size : Int)) ≤ (x0_1.size : Int) then (sign_List.l0 k1 (x0_1.extract ((mn (wrap64 (t117 + 1)) (x0_1.size : Int)) : Int).toNat x0_1.size) x3_1) else (none)) else (none)) else (if x3_1.length < 8796093022208 then (if 0 ≤ (mn (wrap64 (t117 + 1)) (x0_1.size : Int)) then (if (mn (wrap64 (t117 + 1)) (x0_1.size : Int)) ≤ (x0_1.size : Int) then (sign_List.l0 k1 (x0_1.extract ((mn (wrap64 (t117 + 1)) (x0_1.size : Int)) : Int).toNat x0_1.size) (x3_1 ++ [t118])) else (none)) else (none)) else (none))) = some r := H
            have A6 := Aside0.mk A60
            clear A60
            by_cases c7 : t118.toList = ([] : List UInt8)
            · rw [if_pos c7] at H
              have c7b0 : (t118.toList == ([] : List UInt8)) = true := beq_iff_eq.mpr c7
              have c7b1 : (t118.toList != ([] : List UInt8)) = false := bne_eq_false_iff_eq.mpr c7
              have c7b4 : (t118.toList).isEmpty = true := by have h_ := c7b1; revert h_; generalize t118.toList = l_; cases l_ <;> simp
              clear c7
              obtain ⟨ji8, hji8⟩ : ∃ j_ : Int, (mn (wrap64 (t117 + 1)) (x0_1.size : Int)) = j_ := ⟨_, rfl⟩
              replace H : (if 0 ≤ (ji8) then (if (ji8) ≤ (x0_1.size : Int) then (sign_List.l0 k1 (x0_1.extract ((ji8) : Int).toNat x0_1.size) x3_1) else (none)) else (none)) = some r := by first | (rw [hji8] at H; exact H) | (simp only [hji8] at H ⊢; exact H)
              (try rw [hji8] at A3)
              (try rw [hji8] at A6)
              have hji8_ : (if (x0_1.size : Int) < (wrap64 (t117 + 1)) then (x0_1.size : Int) else (wrap64 (t117 + 1))) = ji8 := hji8
              by_cases c9 : 0 ≤ (ji8)
              · rw [if_pos c9] at H
                have c9b0 := eq_true c9
                have c9b1 : decide (0 ≤ (ji8)) = true := decide_eq_true c9
                clear c9
                by_cases c10 : (ji8) ≤ (x0_1.size : Int)
                · rw [if_pos c10] at H
                  have c10b0 := eq_true c10
                  have c10b1 : decide ((ji8) ≤ (x0_1.size : Int)) = true := decide_eq_true c10
                  clear c10
                  have H' := Aside0.mk H
                  clear H
                  go_wp2_with (first | ((with_reducible refine gate_callee (f := 39) rfl ?_); refine goesL_ (some 9) rfl rfl Tryz.func39 (by kernel_rfl) rfl #[.string x0_1] rfl (by (try simp only [List.map_toArray, List.map_cons, List.map_nil]); first | done | rfl | (simp only [List.length_drop, List.length_take]; rfl)) ?_; (with_reducible refine (sign_end.calls k1 x0_1 t117 _ A3.out).mono ?_); rintro e w' ⟨rfl, ⟨nd, rfl⟩⟩; refine ⟨_, rfl, ?_⟩) | ((with_reducible refine gate_callee (f := 40) rfl ?_); refine goesL_ (some 13) rfl rfl Tryz.func40 (by kernel_rfl) rfl #[.string (x0_1.extract 0 (t117 : Int).toNat)] rfl (by (try simp only [List.map_toArray, List.map_cons, List.map_nil]); first | done | rfl | (simp only [List.length_drop, List.length_take]; rfl)) ?_; (with_reducible refine (sign_Trim.calls (x0_1.extract 0 (t117 : Int).toNat) t118 _ A6.out).mono ?_); rintro e w11 ⟨rfl, hb⟩; refine ⟨_, rfl, ?_⟩; have n0_ := Aside0.mk (Kd.R_below (by (with_reducible repeat (first | apply Kd.R_alloc | apply Kd.R_drewN | apply Kd.R_drew)); exact HO_3.out) hb); have n1_ := Aside0.mk (below_step (by repeat (first | (with_reducible first | exact HB.out | apply below_alloc | apply pw_below_drewN | apply below_drew1) | exact HB.out)) hb); clear HO_3; clear HB; have HO_3 := n0_; have HB := n1_; clear n0_ n1_; (try clear hb); (try clear hb2); (try clear hk); (try clear hi)))
                  go_roundg k1
                  case measure => have := HK1.out; omega
                  case rel => exact ⟨(x0_1.extract ((ji8) : Int).toNat x0_1.size), (x3_1), (by first | rfl | (simp; done) | (simp only [← hji8] <;> (first | rfl | simp)) | (simp [*]; done)), H', ⟨by have := HK1.out; omega⟩, ⟨by (with_reducible repeat (first | apply Kd.R_alloc | apply Kd.R_drewN | apply Kd.R_drew)); exact HO_3.out⟩, ⟨by repeat (first | (with_reducible first | exact HB.out | apply below_alloc | apply pw_below_drewN | apply below_drew1) | exact HB.out)⟩⟩
                · rw [if_neg c10] at H
                  exact absurd H (by simp)
              · rw [if_neg c9] at H
                exact absurd H (by simp)
            · rw [if_neg c7] at H
              have c7b0 : (t118.toList == ([] : List UInt8)) = false := beq_eq_false_iff_ne.mpr c7
              have c7b1 : (t118.toList != ([] : List UInt8)) = true := bne_iff_ne.mpr c7
              have c7b4 : (t118.toList).isEmpty = false := by have h_ := c7b1; revert h_; generalize t118.toList = l_; cases l_ <;> simp
              by_cases c12 : x3_1.length < 8796093022208
              · rw [if_pos c12] at H
                have LMc12 := Aside0.mk c12
                clear c12
                obtain ⟨y119, hy119⟩ : ∃ y_ : List ByteArray, y_ = (x3_1 ++ [t118]) := ⟨_, rfl⟩
                replace H : (if 0 ≤ (mn (wrap64 (t117 + 1)) (x0_1.size : Int)) then (if (mn (wrap64 (t117 + 1)) (x0_1.size : Int)) ≤ (x0_1.size : Int) then (sign_List.l0 k1 (x0_1.extract ((mn (wrap64 (t117 + 1)) (x0_1.size : Int)) : Int).toNat x0_1.size) y119) else (none)) else (none)) = some r := by first | (rw [hy119]; with_reducible exact H) | (have H2_ := (Option.bind_some _ _).symm.trans H; rw [hy119]; with_reducible exact H2_) | (have H2_ := (Option.bind_some _ _).symm.trans H; with_reducible exact H2_) | with_reducible exact H | (rw [hy119]; exact H) | exact H
                have Ny119 := Aside0.mk hy119
                clear hy119
                obtain ⟨ji13, hji13⟩ : ∃ j_ : Int, (mn (wrap64 (t117 + 1)) (x0_1.size : Int)) = j_ := ⟨_, rfl⟩
                replace H : (if 0 ≤ (ji13) then (if (ji13) ≤ (x0_1.size : Int) then (sign_List.l0 k1 (x0_1.extract ((ji13) : Int).toNat x0_1.size) y119) else (none)) else (none)) = some r := by first | (rw [hji13] at H; exact H) | (simp only [hji13] at H ⊢; exact H)
                (try rw [hji13] at A3)
                (try rw [hji13] at A6)
                have hji13_ : (if (x0_1.size : Int) < (wrap64 (t117 + 1)) then (x0_1.size : Int) else (wrap64 (t117 + 1))) = ji13 := hji13
                by_cases c14 : 0 ≤ (ji13)
                · rw [if_pos c14] at H
                  have c14b0 := eq_true c14
                  have c14b1 : decide (0 ≤ (ji13)) = true := decide_eq_true c14
                  clear c14
                  by_cases c15 : (ji13) ≤ (x0_1.size : Int)
                  · rw [if_pos c15] at H
                    have c15b0 := eq_true c15
                    have c15b1 : decide ((ji13) ≤ (x0_1.size : Int)) = true := decide_eq_true c15
                    clear c15
                    have H' := Aside0.mk H
                    clear H
                    go_wp2_with (first | ((with_reducible refine gate_callee (f := 39) rfl ?_); refine goesL_ (some 9) rfl rfl Tryz.func39 (by kernel_rfl) rfl #[.string x0_1] rfl (by (try simp only [List.map_toArray, List.map_cons, List.map_nil]); first | done | rfl | (simp only [List.length_drop, List.length_take]; rfl)) ?_; (with_reducible refine (sign_end.calls k1 x0_1 t117 _ A3.out).mono ?_); rintro e w' ⟨rfl, ⟨nd, rfl⟩⟩; refine ⟨_, rfl, ?_⟩) | ((with_reducible refine gate_callee (f := 40) rfl ?_); refine goesL_ (some 13) rfl rfl Tryz.func40 (by kernel_rfl) rfl #[.string (x0_1.extract 0 (t117 : Int).toNat)] rfl (by (try simp only [List.map_toArray, List.map_cons, List.map_nil]); first | done | rfl | (simp only [List.length_drop, List.length_take]; rfl)) ?_; (with_reducible refine (sign_Trim.calls (x0_1.extract 0 (t117 : Int).toNat) t118 _ A6.out).mono ?_); rintro e w16 ⟨rfl, hb⟩; refine ⟨_, rfl, ?_⟩; have n0_ := Aside0.mk (Kd.R_below (by (with_reducible repeat (first | apply Kd.R_alloc | apply Kd.R_drewN | apply Kd.R_drew)); exact HO_3.out) hb); have n1_ := Aside0.mk (below_step (by repeat (first | (with_reducible first | exact HB.out | apply below_alloc | apply pw_below_drewN | apply below_drew1) | exact HB.out)) hb); clear HO_3; clear HB; have HO_3 := n0_; have HB := n1_; clear n0_ n1_; (try clear hb); (try clear hb2); (try clear hk); (try clear hi)) | ((with_reducible refine gate_builtin (b := .append) (xs := #[.tmp 16, .tmp 18]) rfl ?_); at_builtin; refine Kd.R_append Kd.string (w0 := w) w.heap.size rfl (.tmp 16) (.tmp 18) 22 9 (.string ⟨#[]⟩) 16 rfl Tryz.underlying22 info9 rfl (by decide) (by omega) u3 x3_1 t118 [.string t118] (fun _ => True) (fun _ => False) rfl rfl ?aP (fun _ hk => hk.elim) ?aF ?aO ?aB ?aS ?aL ?_; (case aP => exact rfl); (case aB => exact (by repeat (first | (with_reducible first | exact HB.out | apply below_alloc | apply pw_below_drewN | apply below_drew1) | exact HB.out))); (case aF => exact (fun _ _ => trivial)); (case aO => exact (by (with_reducible repeat (first | apply Kd.R_alloc | apply Kd.R_drewN | apply Kd.R_drew)); exact HO_3.out)); (case aS => exact (below_size (by repeat (first | (with_reducible first | exact HB.out | apply below_alloc | apply pw_below_drewN | apply below_drew1) | exact HB.out)))); (case aL => have := LMc12.out; omega); intro v120 w17 ho hb hg hat; rw [← Ny119.out] at ho; have n0_ := Aside0.mk (hb); have n1_ := Aside0.mk (ho); clear HB; clear HO_3; have HB := n0_; have HO121 := n1_; clear n0_ n1_; clear ho hb hg hat))
                    go_roundg k1
                    case measure => have := HK1.out; omega
                    case rel => exact ⟨(x0_1.extract ((ji13) : Int).toNat x0_1.size), (y119), (by first | rfl | (simp; done) | (simp only [← hji13] <;> (first | rfl | simp)) | (simp [*]; done)), H', ⟨by have := HK1.out; omega⟩, ⟨by (with_reducible repeat (first | apply Kd.R_alloc | apply Kd.R_drewN | apply Kd.R_drew)); exact HO121.out⟩, ⟨by repeat (first | (with_reducible first | exact HB.out | apply below_alloc | apply pw_below_drewN | apply below_drew1) | exact HB.out)⟩⟩
                  · rw [if_neg c15] at H
                    exact absurd H (by simp)
                · rw [if_neg c14] at H
                  exact absurd H (by simp)
              · rw [if_neg c12] at H
                exact absurd H (by simp)
          · rw [if_neg c5] at H
            exact absurd H (by simp)
        · rw [if_neg c4] at H
          exact absurd H (by simp)

/-! ### field_List_Elements: function 16 -/
def field_List_Elements.f (k : Nat) (l0 : List (S46)) (a1 : ByteArray) : Option (List ByteArray) := (field_List_Get.f k l0 a1).bind fun bt122 => ((sign_List.f k bt122.1).bind fun t124 => (some t124))
theorem field_List_Elements.mono : ∀ a0 a1 k, LeO (field_List_Elements.f k a0 a1) (field_List_Elements.f (k + 1) a0 a1) := by
  intro a0 a1 k
  unfold field_List_Elements.f
  repeat' first
      | (with_reducible exact field_List_Get.mono _ _ _)
      | (with_reducible exact sign_List.mono _ _)
      | (with_reducible exact LeO.refl _)
      | (with_reducible exact LeO.none _)
      | (with_reducible refine LeO.ite ?_ ?_)
      | (with_reducible refine LeO.bind ?_ (fun _ => ?_))
      | exact field_List_Get.mono _ _ _
      | exact sign_List.mono _ _
      | exact LeO.none _
      | refine LeO.ite ?_ ?_
      | refine LeO.bind ?_ (fun _ => ?_)
set_option maxHeartbeats 8000000 in
set_option maxRecDepth 100000 in
theorem field_List_Elements.calls (k : Nat) (A0 : Option Addr) (c0 : Nat) (l0 : List (S46)) (a1 : ByteArray) (r : List ByteArray) (w : World) (hr0 : Kd.C k46 w A0 l0.length l0) (hc0 : l0.length ≤ c0) (h : field_List_Elements.f k l0 a1 = some r) :
    Calls Tryz.prog 16 #[.slice A0 l0.length c0, .string a1] w fun e w' => ∃ v0_ : Value, e = .returned (v0_) ∧ Kd.R Kd.string 9 w' w.heap.size (fun _ => True) v0_ r ∧ Below w.heap.size w w' := by
  have HR0 := Aside0.mk hr0
  have HC0 := Aside0.mk hc0
  clear hr0 hc0
  have HB := Aside0.mk (Below.refl w.heap.size w)
  have H : ((field_List_Get.f k l0 a1).bind fun bt122 => ((sign_List.f k bt122.1).bind fun t124 => (some t124))) = some r := h
  clear h
  replace H := Option.bind_eq_some_iff.mp H
  obtain ⟨⟨t122, t123⟩, A30, H⟩ := H
  replace H : ((sign_List.f k t122).bind fun t124 => (some t124)) = some r := H
  have A3 := Aside0.mk A30
  clear A30
  replace H := Option.bind_eq_some_iff.mp H
  obtain ⟨t124, A40, H⟩ := H
  replace H : (some t124) = some r := H
  have A4 := Aside0.mk A40
  clear A40
  obtain rfl := Option.some.inj H
  go_enter Tryz.func16, Tryz.ntmps16
  go_wp2_with (first | ((with_reducible refine gate_callee (f := 25) rfl ?_); refine goesL_ (some 10) rfl rfl Tryz.func25 (by kernel_rfl) rfl #[.slice A0 l0.length c0, .string a1] rfl (by (try simp only [List.map_toArray, List.map_cons, List.map_nil]); first | done | rfl | (simp only [List.length_drop, List.length_take]; rfl)) ?_; (with_reducible refine (field_List_Get.calls k _ _ l0 a1 t122 t123 _ ?side1 ?side2 A3.out).mono ?_); (case side1 => repeat (first | exact HR0.out | (with_reducible refine Kd.C_alloc ?_ _) | (with_reducible refine Kd.C_drewN ?_ _) | (with_reducible refine Kd.C_drew ?_))); (case side2 => exact HC0.out); rintro e w5 ⟨rfl, hb⟩; refine ⟨_, rfl, ?_⟩; have n0_ := Aside0.mk (below_step (by repeat (first | (with_reducible first | exact HB.out | apply below_alloc | apply pw_below_drewN | apply below_drew1) | exact HB.out)) hb); clear HB; have HB := n0_; clear n0_; (try clear hb); (try clear hb2); (try clear hk); (try clear hi)) | ((with_reducible refine gate_callee (f := 29) rfl ?_); refine goesL_ (some 14) rfl rfl Tryz.func29 (by kernel_rfl) rfl #[.string t122] rfl (by (try simp only [List.map_toArray, List.map_cons, List.map_nil]); first | done | rfl | (simp only [List.length_drop, List.length_take]; rfl)) ?_; (with_reducible refine (sign_List.calls k t122 t124 _ A4.out).mono ?_); rintro e w6 ⟨v125, rfl, ho0, hb⟩; refine ⟨_, rfl, ?_⟩; have n0_ := Aside0.mk (Kd.R_lower ho0 (below_size (by repeat (first | (with_reducible first | exact HB.out | apply below_alloc | apply pw_below_drewN | apply below_drew1) | exact HB.out)))); have n1_ := Aside0.mk (below_step (by repeat (first | (with_reducible first | exact HB.out | apply below_alloc | apply pw_below_drewN | apply below_drew1) | exact HB.out)) hb); clear HB; have HO126 := n0_; have HB := n1_; clear n0_ n1_; (try clear hb); (try clear hb2); (try clear hk); (try clear hi); (try clear ho0)))
  go_ret
  exact ⟨_, by first | rfl | (generalize ByteArray.toList _ = l_; cases l_ <;> rfl) | (simp [errW_none, errW_some] <;> rfl) | (simp [*, errW_none, errW_some] <;> rfl), by (with_reducible repeat (first | apply Kd.R_alloc | apply Kd.R_drewN | apply Kd.R_drew)); exact HO126.out, by repeat (first | (with_reducible first | exact HB.out | apply below_alloc | apply pw_below_drewN | apply below_drew1) | exact HB.out)⟩

/-! ### slices_Sort_string_string: function 18, by hand -/
def sortL (xs : List ByteArray) : List (List UInt8) := (xs.map (·.data.toList)).mergeSort (fun x y => decide (x ≤ y))
def ofLists (l : List (List UInt8)) : List ByteArray := l.map fun b => ⟨b.toArray⟩
def sortB (xs : List ByteArray) : List ByteArray := ofLists (sortL xs)
theorem sortB_len (xs : List ByteArray) : (sortB xs).length = xs.length := by simp [sortB, ofLists, sortL]
theorem encs_of (l : List (List UInt8)) : encs Value.string (ofLists l) = l.map encStr := by simp [encs, ofLists, encStr]
theorem encs_to (xs : List ByteArray) : encs Value.string xs = (xs.map (·.data.toList)).map encStr := by simp [encs, encStr]
theorem sortB_nil : sortB [] = [] := List.eq_nil_of_length_eq_zero (by rw [sortB_len]; rfl)
theorem grow_nil (W : World) : Go.Sort.grow W #[] = W := by simp [Go.Sort.grow]
theorem grownBy_row {g : Nat} (W : World) (q off : Nat) (d : Array (List UInt8)) : W.grownBy (Go.Sort.putRow encStr (Go.Sort.ahead W q) g off d) (some g) := by
  refine ⟨rfl, rfl, rfl, by simp [Go.Sort.putRow, Go.Sort.mapBlock, Go.Sort.ahead], fun k hk hne => ?_⟩
  have : g ≠ k := fun e => hne (by rw [e])
  simp [Go.Sort.putRow, Go.Sort.mapBlock, Go.Sort.ahead, Array.getElem?_modify, this]
theorem grownBy_none (W : World) : W.grownBy W none := ⟨rfl, rfl, rfl, Nat.le_refl _, fun _ _ _ => rfl⟩
theorem sort_any {W : World} {base : Nat} {ok : Nat → Prop} {A : Option Addr} {c : Nat} {xs : List ByteArray} (hR : Kd.R Kd.string 9 W base ok (.slice A xs.length c) xs) (hl : xs.length < 4611686018427387904) :
    Calls Tryz.prog 18 #[.slice A xs.length c] W fun e w' => e = .returned (.tuple #[]) ∧ Kd.R Kd.string 9 w' base ok (.slice A xs.length c) (sortB xs) ∧ ∃ row, W.grownBy w' row ∧ ∀ k, row = some k → base ≤ k := by
  by_cases h0 : xs.length = 0
  · obtain rfl : xs = [] := List.eq_nil_of_length_eq_zero h0
    refine (Tryz.slices_Sort_string_none A c W).mono fun e w' ⟨he, hw⟩ => ⟨he, by subst hw; rw [sortB_nil]; exact hR, none, by subst hw; exact grownBy_none _, fun k h => by cases h⟩
  · have hok := hR.1
    rcases (Kd.own_of_R hR).2 with ⟨hnil, _⟩ | ⟨g, cap, cur, hv, hbase, hb, h1, h2, h3, h4⟩
    · simp at hnil
      omega
    · obtain ⟨rfl, rfl⟩ : A = some ⟨g, 0, none⟩ ∧ c = cap := by simpa using hv
      rw [Nat.mul_one, encs_to] at h4
      have hH : Go.Sort.Holds encStr W g 0 (xs.map (·.data.toList)).toArray := holds_of_block hb (by simpa using h4)
      have S := Tryz.slices_Sort_string g 0 c (xs.map (·.data.toList)) W hH (Array.getElem?_eq_some_iff.1 hb).1 (by simpa using hl)
      rw [List.length_map] at S
      refine S.mono fun e w' ⟨he, n, os, hw⟩ => ⟨he, ?_, some g, by rw [hw]; exact grownBy_sorted _, fun k h => by cases h; exact hbase⟩
      have hts : ((xs.map (·.data.toList)).mergeSort (fun x y => decide (x ≤ y))).length = (xs.map (·.data.toList)).length := by simp
      have O := ownsRow_sorted (w := W) (n := n) (os := os) (ss := xs.map (·.data.toList)) hts hbase hb (by simpa using h1) h2 h3
      rw [← hw, List.length_map] at O
      refine Kd.R_of_own (enc := Value.string) (h1 := fun _ => rfl) ?_ hok
      rw [sortB_len]
      unfold sortB
      rw [encs_of]
      exact O

/-! ### slices_Compact_string_string: function 19, by hand -/
-- over slices_Sort_string_string
def compB (xs : List ByteArray) : List ByteArray := ofLists (Lib.compact (xs.map (·.data.toList)))
theorem compB_nil : compB [] = [] := List.eq_nil_of_length_eq_zero (by have := Lib.compact_length_le (([] : List ByteArray).map (·.data.toList)); simp [compB, ofLists] at *; first | done | omega | exact this)
def namesB (xs : List ByteArray) : List ByteArray := compB (sortB xs)
theorem compact_any {W : World} {base : Nat} {ok : Nat → Prop} {A : Option Addr} {n c : Nat} {ys : List ByteArray} (hn : ys.length = n) (hR : Kd.R Kd.string 9 W base ok (.slice A n c) ys) (hl : n ≤ 9223372036854775807) :
    Calls Tryz.prog 19 #[.slice A n c] W fun e w' => ∃ v, e = .returned v ∧ Kd.R Kd.string 9 w' base ok v (compB ys) ∧ ∃ row, W.grownBy w' row ∧ ∀ k, row = some k → base ≤ k := by
  subst hn
  by_cases h0 : ys.length = 0
  · obtain rfl : ys = [] := List.eq_nil_of_length_eq_zero h0
    refine (Tryz.slices_Compact_string_empty A c W).mono fun e w' ⟨he, hw⟩ => ⟨_, he, by subst hw; rw [compB_nil]; exact hR, none, by subst hw; exact grownBy_none _, fun k h => by cases h⟩
  · have hok := hR.1
    rcases (Kd.own_of_R hR).2 with ⟨hnil, _⟩ | ⟨g, cap, cur, hv, hbase, hb, h1, h2, h3, h4⟩
    · simp at hnil
      omega
    · obtain ⟨rfl, rfl⟩ : A = some ⟨g, 0, none⟩ ∧ c = cap := by simpa using hv
      rw [Nat.mul_one, encs_to] at h4
      have hH : Go.Sort.Holds encStr W g 0 (ys.map fun y : ByteArray => y.data.toList).toArray := holds_of_block hb (by simpa using h4)
      have S := Tryz.slices_Compact_string g 0 c (ys.map fun y : ByteArray => y.data.toList) W hH (by simpa using hl) (by simpa using h1)
      have hle := Lib.compact_length_le (ys.map fun y : ByteArray => y.data.toList)
      rw [List.length_map] at S hle
      refine S.mono fun e w' ⟨he, q, hw⟩ => ⟨_, he, ?_, some g, by rw [hw]; exact grownBy_row _ _ _ _, fun k h => by cases h; exact hbase⟩
      have hts : (Lib.compact (ys.map fun y : ByteArray => y.data.toList) ++ List.replicate (ys.length - (Lib.compact (ys.map fun y : ByteArray => y.data.toList)).length) []).length = (ys.map fun y : ByteArray => y.data.toList).length := by simp; omega
      have O := ownsRow_sorted (w := W) (n := q) (os := #[]) (ss := ys.map fun y : ByteArray => y.data.toList) hts hbase hb (by simpa using h1) h2 h3
      rw [grow_nil, ← hw, List.length_map] at O
      have hF : (ofLists (Lib.compact (ys.map fun y : ByteArray => y.data.toList) ++ List.replicate (ys.length - (Lib.compact (ys.map fun y : ByteArray => y.data.toList)).length) [])).length = ys.length := by simp [ofLists]; omega
      have R1 : Kd.R Kd.string 9 w' base ok (.slice (some ⟨g, 0, none⟩) ys.length c) (ofLists (Lib.compact (ys.map fun y : ByteArray => y.data.toList) ++ List.replicate (ys.length - (Lib.compact (ys.map fun y : ByteArray => y.data.toList)).length) [])) := by
        refine Kd.R_of_own (enc := Value.string) (h1 := fun _ => rfl) ?_ hok
        rw [hF, encs_of]
        exact O
      have R2 := Kd.R_take R1 (m := (Lib.compact (ys.map fun y : ByteArray => y.data.toList)).length) (by rw [hF]; exact hle)
      have e2 : (ofLists (Lib.compact (ys.map fun y : ByteArray => y.data.toList) ++ List.replicate (ys.length - (Lib.compact (ys.map fun y : ByteArray => y.data.toList)).length) [])).take (Lib.compact (ys.map fun y : ByteArray => y.data.toList)).length = compB ys := by
        unfold compB ofLists
        rw [List.map_append, List.take_left' (by simp)]
      rw [e2] at R2
      exact R2

/-! ### key_Names: function 8, by hand -/
-- over 16 17 slices_Compact_string_string
def key_Names.l0 : Nat → List ByteArray → Bool → List ByteArray → Int → Int → Option (List ByteArray × Bool)
  | 0, _, _, _, _, _ => none
  | k + 1, x2, x3, x7, x8, x9 => if x9 < x8 then (if 0 ≤ x9 then (if x9 < (x7.length : Int) then (if (rdOf ByteArray.empty x7 x9).toList = ([42] : List UInt8) then (key_Names.l0 k x2 true x7 x8 (wrap64 (x9 + 1))) else ((sign_Lower.f (rdOf ByteArray.empty x7 x9)).bind fun t265 => (if x2.length < 8796093022208 then (key_Names.l0 k (x2 ++ [t265]) x3 x7 x8 (wrap64 (x9 + 1))) else (none)))) else (none)) else (none)) else ((if x2.length ≤ 1000000000000 then some (namesB x2) else (none : Option (List ByteArray))).bind fun t269 => (some (t269, x3)))
def key_Names.f (k : Nat) (l0 : List (S46)) : Option (List ByteArray × Bool) := (field_List_Elements.f k l0 (⟨#[86, 97, 114, 121]⟩ : ByteArray)).bind fun t261 => (key_Names.l0 k ([] : List ByteArray) false t261 (t261.length : Int) 0)
theorem key_Names.mono_l : ∀ k, (∀ y0 y1 y2 y3 y4, LeO (key_Names.l0 k y0 y1 y2 y3 y4) (key_Names.l0 (k + 1) y0 y1 y2 y3 y4))
  | 0 => fun _ _ _ _ _ r h => by simp [key_Names.l0] at h
  | k + 1 => by
    have ih0 := key_Names.mono_l k
    · intro y0 y1 y2 y3 y4
      unfold key_Names.l0
      repeat' first
      | (with_reducible exact ih0 _ _ _ _ _)
      | (with_reducible exact field_List_Elements.mono _ _ _)
      | (with_reducible exact LeO.refl _)
      | (with_reducible exact LeO.none _)
      | (with_reducible refine LeO.ite ?_ ?_)
      | (with_reducible refine LeO.bind ?_ (fun _ => ?_))
      | exact ih0 _ _ _ _ _
      | exact field_List_Elements.mono _ _ _
      | exact LeO.none _
      | refine LeO.ite ?_ ?_
      | refine LeO.bind ?_ (fun _ => ?_)
theorem key_Names.mono : ∀ a0 k, LeO (key_Names.f k a0) (key_Names.f (k + 1) a0) := by
  intro a0 k
  have ih0 := key_Names.mono_l k
  unfold key_Names.f
  repeat' first
      | (with_reducible exact ih0 _ _ _ _ _)
      | (with_reducible exact field_List_Elements.mono _ _ _)
      | (with_reducible exact LeO.refl _)
      | (with_reducible exact LeO.none _)
      | (with_reducible refine LeO.ite ?_ ?_)
      | (with_reducible refine LeO.bind ?_ (fun _ => ?_))
      | exact ih0 _ _ _ _ _
      | exact field_List_Elements.mono _ _ _
      | exact LeO.none _
      | refine LeO.ite ?_ ?_
      | refine LeO.bind ?_ (fun _ => ?_)
set_option maxHeartbeats 8000000 in
set_option maxRecDepth 100000 in
theorem key_Names.calls (k : Nat) (A0 : Option Addr) (c0 : Nat) (l0 : List (S46)) (r1 : List ByteArray) (r2 : Bool) (w : World) (hr0 : Kd.C k46 w A0 l0.length l0) (hc0 : l0.length ≤ c0) (h : key_Names.f k l0 = some (r1, r2)) :
    Calls Tryz.prog 8 #[.slice A0 l0.length c0] w fun e w' => ∃ v0_ : Value, e = .returned (.tuple #[v0_, .bool r2]) ∧ Kd.R Kd.string 9 w' w.heap.size (fun _ => True) v0_ r1 ∧ Below w.heap.size w w' := by
  have HR0 := Aside0.mk hr0
  have HC0 := Aside0.mk hc0
  clear hr0 hc0
  have HB := Aside0.mk (Below.refl w.heap.size w)
  have H : ((field_List_Elements.f k l0 (⟨#[86, 97, 114, 121]⟩ : ByteArray)).bind fun t261 => (key_Names.l0 k ([] : List ByteArray) false t261 (t261.length : Int) 0)) = some (r1, r2) := h
  clear h
  replace H := Option.bind_eq_some_iff.mp H
  obtain ⟨t261, A20, H⟩ := H
  replace H : (key_Names.l0 k ([] : List ByteArray) false t261 (t261.length : Int) 0) = some (r1, r2) := H
  have A2 := Aside0.mk A20
  clear A20
  have H' := Aside0.mk H
  clear H
  go_enter Tryz.func8, Tryz.ntmps8
  go_wp2_with (first | ((with_reducible refine gate_callee (f := 16) rfl ?_); refine goesL_ (some 7) rfl rfl Tryz.func16 (by kernel_rfl) rfl #[.slice A0 l0.length c0, .string (⟨#[86, 97, 114, 121]⟩ : ByteArray)] rfl (by (try simp only [List.map_toArray, List.map_cons, List.map_nil]); first | done | rfl | (simp only [List.length_drop, List.length_take]; rfl)) ?_; (with_reducible refine (field_List_Elements.calls k _ _ l0 (⟨#[86, 97, 114, 121]⟩ : ByteArray) t261 _ ?side1 ?side2 A2.out).mono ?_); (case side1 => repeat (first | exact HR0.out | (with_reducible refine Kd.C_alloc ?_ _) | (with_reducible refine Kd.C_drewN ?_ _) | (with_reducible refine Kd.C_drew ?_))); (case side2 => exact HC0.out); rintro e w3 ⟨v262, rfl, ho0, hb⟩; refine ⟨_, rfl, ?_⟩; have n0_ := Aside0.mk (Kd.R_lower ho0 (below_size (by repeat (first | (with_reducible first | exact HB.out | apply below_alloc | apply pw_below_drewN | apply below_drew1) | exact HB.out)))); have n1_ := Aside0.mk (below_step (by repeat (first | (with_reducible first | exact HB.out | apply below_alloc | apply pw_below_drewN | apply below_drew1) | exact HB.out)) hb); clear HB; have HO263 := n0_; have HB := n1_; clear n0_ n1_; (try clear hb); (try clear hb2); (try clear hk); (try clear hi); (try clear ho0); obtain ⟨Ao4, co4, eo4⟩ := Kd.R_slice HO263.out; subst eo4))
  go_loopg [2, 3, 9] k (fun kq v2 v3 v9 w' => ∃ (x2_1 : List ByteArray) (x3_1 : Bool) (x9_1 : Int), v3 = .bool x3_1 ∧ v9 = .int .i64 x9_1 ∧ Aside0 (key_Names.l0 kq x2_1 x3_1 t261 (t261.length : Int) x9_1 = some (r1, r2)) ∧ Aside0 (kq ≤ k) ∧ Aside0 (Kd.R Kd.string 9 w' w.heap.size (fun k_ => some k_ ≠ ((.slice Ao4 t261.length co4) : Value).ownBlock) v2 x2_1) ∧ Aside0 (Kd.R Kd.string 9 w' w.heap.size (fun k_ => some k_ ≠ (v2 : Value).ownBlock) (.slice Ao4 t261.length co4) t261) ∧ Aside0 (Below w.heap.size w w'))
  case atStart => exact ⟨(([] : List ByteArray)), (false), (0), (by first | rfl | (simp; done) | (simp [*]; done)), (by first | rfl | (simp; done) | (simp [*]; done)), H', ⟨Nat.le_refl _⟩, ⟨by first | exact Kd.R_nil _ _ _ _ _ | exact Kd.N_nil _ _ _ _ _ | exact Kd.V_nil _ _ _ _ _ | exact Kd.Q_nil _ _ _ _ _ | exact Kd.S_nil _ _ _ _ _⟩, ⟨by (with_reducible repeat (first | apply Kd.R_alloc | apply Kd.R_drewN | apply Kd.R_drew)); exact Kd.R_mono HO263.out (fun _ hk => (by simp [Value.ownBlock]))⟩, ⟨by repeat (first | (with_reducible first | exact HB.out | apply below_alloc | apply pw_below_drewN | apply below_drew1) | exact HB.out)⟩⟩
  case round =>
    clear H'
    try clear c2
    try clear p2
    try clear c4
    obtain ⟨x2_1, x3_1, x9_1, rfl, rfl, HA, HK1, HO_2, HO_7, HB⟩ := hrel
    cases gk with
    | zero => exact absurd HA.out (by simp [key_Names.l0])
    | succ k1 =>
      have H := HA.out
      clear HA
      simp only [key_Names.l0] at H
      by_cases c5 : x9_1 < (t261.length : Int)
      · rw [if_pos c5] at H
        have c5b0 : decide (x9_1 < (t261.length : Int)) = true := decide_eq_true c5
        clear c5
        by_cases c6 : 0 ≤ x9_1
        · rw [if_pos c6] at H
          have c6b0 : decide (0 ≤ x9_1) = true := decide_eq_true c6
          clear c6
          by_cases c7 : x9_1 < (t261.length : Int)
          · rw [if_pos c7] at H
            have c7b0 : decide (x9_1 < (t261.length : Int)) = true := decide_eq_true c7
            clear c7
            by_cases c8 : (rdOf ByteArray.empty t261 x9_1).toList = ([42] : List UInt8)
            · rw [if_pos c8] at H
              have c8b0 : ((rdOf ByteArray.empty t261 x9_1).toList == ([42] : List UInt8)) = true := beq_iff_eq.mpr c8
              have c8b1 : ((rdOf ByteArray.empty t261 x9_1).toList != ([42] : List UInt8)) = false := bne_eq_false_iff_eq.mpr c8
              clear c8
              have H' := Aside0.mk H
              clear H
              have p264 : 0 ≤ (x9_1 : Int) := of_decide_eq_true (by first | (with_reducible assumption) | assumption)
              have q264 : x9_1 < (t261.length : Int) := of_decide_eq_true (by first | (with_reducible assumption) | assumption)
              obtain ⟨ad264, e264, hx264_0⟩ := Kd.at_string (Kd.R_reads' HO_7.out).2.2 x9_1 p264 q264
              cases e264
              replace p264 := eq_true p264
              replace q264 := eq_true q264
              go_wp2
              go_roundg k1
              case measure => have := HK1.out; omega
              case rel => exact ⟨(x2_1), (true), (wrap64 (x9_1 + 1)), (by first | rfl | (simp; done) | (simp [*]; done)), (by first | rfl | (simp; done) | (simp [*]; done)), H', ⟨by have := HK1.out; omega⟩, ⟨by (with_reducible repeat (first | apply Kd.R_alloc | apply Kd.R_drewN | apply Kd.R_drew)); exact HO_2.out⟩, ⟨by (with_reducible repeat (first | apply Kd.R_alloc | apply Kd.R_drewN | apply Kd.R_drew)); exact HO_7.out⟩, ⟨by repeat (first | (with_reducible first | exact HB.out | apply below_alloc | apply pw_below_drewN | apply below_drew1) | exact HB.out)⟩⟩
            · rw [if_neg c8] at H
              have c8b0 : ((rdOf ByteArray.empty t261 x9_1).toList == ([42] : List UInt8)) = false := beq_eq_false_iff_ne.mpr c8
              have c8b1 : ((rdOf ByteArray.empty t261 x9_1).toList != ([42] : List UInt8)) = true := bne_iff_ne.mpr c8
              replace H := Option.bind_eq_some_iff.mp H
              obtain ⟨t265, A90, H⟩ := H
              replace H : (if x2_1.length < 8796093022208 then (key_Names.l0 k1 (x2_1 ++ [t265]) x3_1 t261 (t261.length : Int) (wrap64 (x9_1 + 1))) else (none)) = some (r1, r2) := H
              have A9 := Aside0.mk A90
              clear A90
              by_cases c10 : x2_1.length < 8796093022208
              · rw [if_pos c10] at H
                have LMc10 := Aside0.mk c10
                clear c10
                obtain ⟨y266, hy266⟩ : ∃ y_ : List ByteArray, y_ = (x2_1 ++ [t265]) := ⟨_, rfl⟩
                replace H : (key_Names.l0 k1 y266 x3_1 t261 (t261.length : Int) (wrap64 (x9_1 + 1))) = some (r1, r2) := by first | (rw [hy266]; with_reducible exact H) | (have H2_ := (Option.bind_some _ _).symm.trans H; rw [hy266]; with_reducible exact H2_) | (have H2_ := (Option.bind_some _ _).symm.trans H; with_reducible exact H2_) | with_reducible exact H | (rw [hy266]; exact H) | exact H
                have Ny266 := Aside0.mk hy266
                clear hy266
                have H' := Aside0.mk H
                clear H
                have p264 : 0 ≤ (x9_1 : Int) := of_decide_eq_true (by first | (with_reducible assumption) | assumption)
                have q264 : x9_1 < (t261.length : Int) := of_decide_eq_true (by first | (with_reducible assumption) | assumption)
                obtain ⟨ad264, e264, hx264_0⟩ := Kd.at_string (Kd.R_reads' HO_7.out).2.2 x9_1 p264 q264
                cases e264
                replace p264 := eq_true p264
                replace q264 := eq_true q264
                go_wp2_with (first | ((with_reducible refine gate_callee (f := 17) rfl ?_); refine goesL_ (some 17) rfl rfl Tryz.func17 (by kernel_rfl) rfl #[.string (rdOf ByteArray.empty t261 x9_1)] rfl (by (try simp only [List.map_toArray, List.map_cons, List.map_nil]); first | done | rfl | (simp only [List.length_drop, List.length_take]; rfl)) ?_; (with_reducible refine (sign_Lower.calls (rdOf ByteArray.empty t261 x9_1) t265 _ A9.out).mono ?_); rintro e w11 ⟨rfl, hb⟩; refine ⟨_, rfl, ?_⟩; have n0_ := Aside0.mk (Kd.R_below (by (with_reducible repeat (first | apply Kd.R_alloc | apply Kd.R_drewN | apply Kd.R_drew)); exact HO_2.out) hb); have n1_ := Aside0.mk (Kd.R_below (by (with_reducible repeat (first | apply Kd.R_alloc | apply Kd.R_drewN | apply Kd.R_drew)); exact HO_7.out) hb); have n2_ := Aside0.mk (below_step (by repeat (first | (with_reducible first | exact HB.out | apply below_alloc | apply pw_below_drewN | apply below_drew1) | exact HB.out)) hb); clear HO_2; clear HO_7; clear HB; have HO_2 := n0_; have HO_7 := n1_; have HB := n2_; clear n0_ n1_ n2_; (try clear hb); (try clear hb2); (try clear hk); (try clear hi)) | ((with_reducible refine gate_builtin (b := .append) (xs := #[.tmp 15, .tmp 18]) rfl ?_); at_builtin; refine Kd.R_append Kd.string (w0 := w) w.heap.size rfl (.tmp 15) (.tmp 18) 22 9 (.string ⟨#[]⟩) 16 rfl Tryz.underlying22 info9 rfl (by decide) (by omega) u2 x2_1 t265 [.string t265] (fun k_ => some k_ ≠ (.slice (some ad264) t261.length co4 : Value).ownBlock) (fun _ => False) rfl rfl ?aP (fun _ hk => hk.elim) ?aF ?aO ?aB ?aS ?aL ?_; (case aP => exact rfl); (case aB => exact (by repeat (first | (with_reducible first | exact HB.out | apply below_alloc | apply pw_below_drewN | apply below_drew1) | exact HB.out))); (case aF => exact (fun k_ hk => Kd.fresh' (Kd.R_lt (by (with_reducible repeat (first | apply Kd.R_alloc | apply Kd.R_drewN | apply Kd.R_drew)); exact HO_7.out)) k_ hk)); (case aO => exact (by (with_reducible repeat (first | apply Kd.R_alloc | apply Kd.R_drewN | apply Kd.R_drew)); exact HO_2.out)); (case aS => exact (below_size (by repeat (first | (with_reducible first | exact HB.out | apply below_alloc | apply pw_below_drewN | apply below_drew1) | exact HB.out)))); (case aL => have := LMc10.out; omega); intro v267 w12 ho hb hg hat; rw [← Ny266.out] at ho; have n0_ := Aside0.mk (Kd.R_after (ok := (fun _ => True)) (by (with_reducible repeat (first | apply Kd.R_alloc | apply Kd.R_drewN | apply Kd.R_drew)); exact Kd.R_mono HO_7.out (fun _ hk => by first | exact ⟨trivial, hk⟩ | simp_all)) hg hat); have n1_ := Aside0.mk (hb); have n2_ := Aside0.mk (ho); clear HO_7; clear HB; clear HO_2; have HO_7 := n0_; have HB := n1_; have HO268 := n2_; clear n0_ n1_ n2_; clear ho hb hg hat))
                go_roundg k1
                case measure => have := HK1.out; omega
                case rel => exact ⟨(y266), (x3_1), (wrap64 (x9_1 + 1)), (by first | rfl | (simp; done) | (simp [*]; done)), (by first | rfl | (simp; done) | (simp [*]; done)), H', ⟨by have := HK1.out; omega⟩, ⟨by (with_reducible repeat (first | apply Kd.R_alloc | apply Kd.R_drewN | apply Kd.R_drew)); exact HO268.out⟩, ⟨by (with_reducible repeat (first | apply Kd.R_alloc | apply Kd.R_drewN | apply Kd.R_drew)); exact Kd.R_mono HO_7.out (fun _ hk => hk.2)⟩, ⟨by repeat (first | (with_reducible first | exact HB.out | apply below_alloc | apply pw_below_drewN | apply below_drew1) | exact HB.out)⟩⟩
              · rw [if_neg c10] at H
                exact absurd H (by simp)
          · rw [if_neg c7] at H
            exact absurd H (by simp)
        · rw [if_neg c6] at H
          exact absurd H (by simp)
      · rw [if_neg c5] at H
        have c5b0 : decide (x9_1 < (t261.length : Int)) = false := decide_eq_false c5
        clear c5
        replace H := Option.bind_eq_some_iff.mp H
        obtain ⟨t269, A130, H⟩ := H
        replace H : (some (t269, x3_1)) = some (r1, r2) := H
        have A13 := Aside0.mk A130
        clear A130
        simp only [Option.some.injEq, Prod.mk.injEq] at H
        obtain ⟨rfl, rfl⟩ := H
        by_cases hlen : x2_1.length ≤ 1000000000000
        case neg => exact absurd A13.out (by rw [if_neg hlen]; simp)
        have hnm : namesB x2_1 = t269 := by have h_ := A13.out; rw [if_pos hlen] at h_; exact Option.some.inj h_
        obtain ⟨Ao14, co14, eo14⟩ := Kd.R_slice HO_2.out
        subst eo14
        have SRT := Aside0.mk (sort_any HO_2.out (by omega))
        have HLN := Aside0.mk hlen
        have HNM := Aside0.mk hnm
        clear hlen hnm A13
        go_wp2_with (first | (go_at_call 18; (with_reducible refine SRT.out.mono ?_); rintro e w15 ⟨rfl, hr1, row, hg, hrow⟩; have HS1 := Aside0.mk hr1; have HB1 := Aside0.mk (HB.out.grown hg HB.out.size hrow); clear hr1 hg hrow SRT) | (go_at_call 19; (with_reducible refine (compact_any (sortB_len x2_1) HS1.out (by have := HLN.out; omega)).mono ?_); rintro e w16 ⟨v9_, rfl, hr2, row, hg, hrow⟩; have HS2 := Aside0.mk hr2; have HB2 := Aside0.mk (HB1.out.grown hg HB1.out.size hrow); clear hr2 hg hrow))
        go_ret2
        exact ⟨_, rfl, by rw [← HNM.out]; exact Kd.R_mono HS2.out (fun _ _ => trivial), HB2.out⟩

-- NOT PRINTED: function 57 (abi_NoEscape)

/-! ### strings_Builder_copyCheck: function 37, by hand -/
theorem ownsRow_kind {w : World} {B : Nat} {e : TypeId} {size n : Nat} {v : Value} {xs : List Value} (h : w.ownsRow B e size v n xs) : ∀ g, v.ownBlock = some g → ∃ c fz, w.heap[g]? = some (.cells c e fz) := by
  intro g hg
  rcases h.2 with ⟨rfl, _⟩ | ⟨g', cap, cur, rfl, _, hh, _⟩
  · simp [Value.ownBlock] at hg
  · simp only [Value.ownBlock, Option.some.injEq] at hg
    subst hg
    exact ⟨cur, _, hh⟩
theorem infoByte_ : (Tryz.prog.info? 5).map (fun i => (i.zero, i.size, i.bytes)) = some (some (.int .u8 0), 1, 1) := by kernel_rfl
theorem sizeBuilder_ : (Tryz.prog.info? 62).map (·.size) = some 2 := by kernel_rfl
theorem liesBuilder_ : liesAt Tryz.prog Tryz.prog.depth 62 (2 / Tryz.prog.cellsOf 62) 0 62 1 = true := by kernel_rfl
set_option maxHeartbeats 1000000 in
set_option maxRecDepth 100000 in
theorem Builder_copyCheck_used (b : Nat) (w : World) (h0 : w.cell? ⟨b, 0, none⟩ = some (.pointer (some ⟨b, 0, none⟩))) :
    Calls Tryz.prog 37 #[.pointer (some ⟨b, 0, none⟩)] w fun e w' => e = .returned (.tuple #[]) ∧ w' = w := by
  obtain ⟨j, hj, _⟩ := Option.map_eq_some_iff.1 sizeBuilder_
  go_enter Tryz.func37, Tryz.ntmps37
  go_wp2
  rw [Lib.run_neq_ptr_same w _ Tryz.underlying59 hj]
  go_wp2
  go_end0
  exact ⟨rfl, rfl⟩
set_option maxHeartbeats 1000000 in
set_option maxRecDepth 100000 in
theorem Builder_copyCheck_fresh (b : Nat) (w : World) (h0 : w.cell? ⟨b, 0, none⟩ = some (.pointer none)) (hsh : w.shape? b = some (62, 2)) (hfz : w.frozen? ⟨b, 0, none⟩ = false) :
    Calls Tryz.prog 37 #[.pointer (some ⟨b, 0, none⟩)] w fun e w' => e = .returned (.tuple #[]) ∧ w' = w.setCell ⟨b, 0, none⟩ (.pointer (some ⟨b, 0, none⟩)) := by
  obtain ⟨j, hj, hjs⟩ := Option.map_eq_some_iff.1 sizeBuilder_
  go_enter Tryz.func37, Tryz.ntmps37
  go_wp2
  rw [Lib.run_to_unsafe w ⟨b, 0, none⟩ Tryz.underlying59 Tryz.underlying97 hj (by rw [hjs]; decide) hsh (Nat.zero_lt_succ 1)]
  simp only [Result.andThen]
  rw [Oper.upon_value]
  go_wp2
  rw [run_callFunc_extern Tryz.func57 (by kernel_rfl) (by kernel_rfl) (by kernel_rfl) (e := Extern.AbiNoEscape.same) (by kernel_rfl)]
  rw [Lib.run_noEscape]
  simp only [Result.andThen]
  rw [Oper.upon_value]
  go_wp2
  rw [Lib.run_from_unsafe w ⟨b, 0, none⟩ Tryz.underlying97 Tryz.underlying59 hj hsh liesBuilder_]
  simp only [Result.andThen]
  rw [Oper.upon_value]
  go_wp2
  go_end0
  exact ⟨rfl, rfl⟩
theorem Builder_copyCheck (B b : Nat) (bs : List Value) (w : World) (h : Lib.IsBuilder 62 5 B b bs w) :
    Calls Tryz.prog 37 #[.pointer (some ⟨b, 0, none⟩)] w fun e w' => e = .returned (.tuple #[]) ∧ (Lib.BuilderAt 62 5 B b (.pointer (some ⟨b, 0, none⟩)) bs w' ∧ Below B w w' ∧ Lib.OthersKept 5 (some b) w w') := by
  rcases h with h | h
  · refine (Builder_copyCheck_fresh b w h.cell0 h.shape h.frozen0).mono ?_
    rintro e w' ⟨rfl, rfl⟩
    exact ⟨rfl, h.used _, (Below.refl B w).setCell (p := ⟨b, 0, none⟩) h.1 _, (Lib.OthersKept.refl _ _ w).setCell ⟨b, 0, none⟩ rfl _⟩
  · refine (Builder_copyCheck_used b w h.cell0).mono ?_
    rintro e w' ⟨rfl, rfl⟩
    exact ⟨rfl, h, Below.refl B _, Lib.OthersKept.refl _ _ _⟩


/-! ### strings_Builder_WriteString: function 26, by hand -/
set_option maxHeartbeats 2000000 in
set_option maxRecDepth 100000 in
theorem Builder_WriteString (B b : Nat) (bs : List Value) (s : ByteArray) (w : World) (h : Lib.IsBuilder 62 5 B b bs w) (hlen : bs.length + s.size ≤ 140737488355328) (hBw : B ≤ w.heap.size) :
    Calls Tryz.prog 26 #[.pointer (some ⟨b, 0, none⟩), .string s] w fun e w' => e = .returned (.tuple #[.int .i64 s.size, .nilIface]) ∧ (Lib.BuilderAt 62 5 B b (.pointer (some ⟨b, 0, none⟩)) (bs ++ Lib.strCells s) w' ∧ Below B w w' ∧ Lib.OthersKept 5 (some b) w w') := by
  obtain ⟨i0, hi, hz0, hz1, hz2⟩ := info_parts infoByte_
  go_enter Tryz.func26, Tryz.ntmps26
  go_wp2_with (go_at_call 37; refine (Builder_copyCheck B b bs _ h).mono ?_)
  rintro e w1 ⟨rfl, h1, hb1, hk1⟩
  obtain ⟨hB, v, hbk, hown, hne⟩ := h1
  have c0 : w1.cell? ⟨b, 0, none⟩ = some (.pointer (some ⟨b, 0, none⟩)) := by rw [Lib.cell_of_heap hbk]; rfl
  have c1 : w1.cell? ⟨b, 1, none⟩ = some v := by rw [Lib.cell_of_heap hbk]; rfl
  go_wp2_with (at_builtin; refine Lib.wpList_append_own_string _ rfl _ _ 60 9 rfl B 5 i0 Tryz.underlying60 Tryz.underlying9 hi hz0 hz1 hz2 _ _ _ rfl hown s rfl ?c3 ?c4 ?c5 ?_)
  case c3 => unfold maxLen; omega
  case c4 => omega
  case c5 => have := hb1.size; omega
  intro v' w2 hown' hgrow _
  have hlt : b < w1.heap.size := by
    rcases Nat.lt_or_ge b w1.heap.size with h' | h'
    · exact h'
    · simp [Array.getElem?_eq_none h'] at hbk
  have hb2 : w2.heap[b]? = some (.cells #[.pointer (some ⟨b, 0, none⟩), v] 62 (0, 0)) := by
    rw [hgrow.block b hlt (fun e => hne e.symm)]
    exact hbk
  have d0 : w2.cell? ⟨b, 0, none⟩ = some (.pointer (some ⟨b, 0, none⟩)) := by rw [Lib.cell_of_heap hb2]; rfl
  have d1 : w2.cell? ⟨b, 1, none⟩ = some v := by rw [Lib.cell_of_heap hb2]; rfl
  have f1 : w2.frozen? ⟨b, 1, none⟩ = false := Lib.frozen_of_heap hb2 1
  obtain ⟨ao, n', cap, rfl⟩ : ∃ ao n' cap, v' = .slice ao n' cap := by
    rcases hown'.2 with ⟨hv, _⟩ | ⟨g, cap, cur, hv, _⟩
    · exact ⟨_, _, _, hv⟩
    · exact ⟨_, _, _, hv⟩
  go_wp2
  go_ret2
  refine ⟨rfl, ?_, ?_, (hk1.grown hgrow (ownsRow_kind hown)).setCell ⟨b, 1, none⟩ rfl _⟩
  · exact Lib.BuilderAt.put (T := 62) (e := 5) hB hb2 (bs' := bs ++ Lib.strCells s) (by simpa [Lib.strCells_length] using hown') (by decide)
  · exact (hb1.grown hgrow (by have := hb1.size; omega) (fun k hk => (hown.lt k hk).1)).setCell (p := ⟨b, 1, none⟩) hB _

-- NOT PRINTED: function 27 (strings_Builder_String)

/-! ### strconv_Itoa: function 33, by hand -/
def strconv_Itoa.f (a0 : Int) : Option ByteArray := if -9223372036854775808 ≤ a0 ∧ a0 ≤ 9223372036854775807 then some ⟨(Lib.itoa a0).toArray⟩ else none
theorem below_grow_ (w : World) (k : Nat) (os : Array Obj) : Below w.heap.size w (Go.Sort.grow (w.drewN k) os) :=
  ⟨rfl, rfl, rfl, by show w.heap.size ≤ (w.heap ++ os).size; rw [Array.size_append]; omega, fun j hj => Go.Sort.heap_grow_old (w.drewN k) os hj⟩
theorem strconv_Itoa.calls (a0 : Int) (r : ByteArray) (w : World) (hrW : WF w) (h : strconv_Itoa.f a0 = some r) :
    Calls Tryz.prog 33 #[.int .i64 a0] w fun e w' => e = .returned (.string r) ∧ Below w.heap.size w w' := by
  unfold strconv_Itoa.f at h
  split at h
  case isTrue hb =>
    obtain rfl := Option.some.inj h
    refine (Tryz.strconv_Itoa a0 hb.1 hb.2 w hrW).mono ?_
    rintro e w' ⟨rfl, k, os, rfl⟩
    exact ⟨rfl, below_grow_ w k os⟩
  case isFalse => cases h
theorem Itoa_nat (n : Nat) (hn : n ≤ 9223372036854775807) (w : World) (hrW : WF w) :
    Calls Tryz.prog 33 #[.int .i64 n] w fun e w' => e = .returned (.string ⟨(Lib.decDigits n).toArray⟩) ∧ Below w.heap.size w w' := by
  refine strconv_Itoa.calls (n : Int) _ w hrW ?_
  unfold strconv_Itoa.f Lib.itoa
  rw [if_pos (by omega), if_neg (by omega)]
  rfl

/-! ### key_mark: function 23, by hand -/
-- over 26 27 33
def markB (s : List UInt8) : List UInt8 := Lib.decDigits s.length ++ 58 :: s
def marksB (l : List ByteArray) : List UInt8 := (l.map fun s => markB s.data.toList).flatten
def markOk (l : List ByteArray) : Prop := l.length ≤ 1000 ∧ ∀ s ∈ l, s.size ≤ 1000000000
instance (l : List ByteArray) : Decidable (markOk l) := by unfold markOk; infer_instance
def key_mark.f (l0 : List ByteArray) : Option ByteArray := if markOk l0 then some ⟨(marksB l0).toArray⟩ else none
theorem byteCells_append (a b : List UInt8) : Lib.byteCells (a ++ b) = Lib.byteCells a ++ Lib.byteCells b := by simp [Lib.byteCells]
theorem strCells_bytes (s : ByteArray) : Lib.strCells s = Lib.byteCells s.data.toList := by simp [Lib.strCells, Lib.byteCells]
theorem isBuilder_below {T e : TypeId} {B b : Nat} {bs : List Value} {w w' : World} (h : Lib.IsBuilder T e B b bs w) (hb : Below w.heap.size w w') : Lib.IsBuilder T e B b bs w' := by
  have key : ∀ p, Lib.BuilderAt T e B b p bs w → Lib.BuilderAt T e B b p bs w' := by
    rintro p hp
    have hlt := hp.lt
    obtain ⟨hB, v, hh, hown, hne⟩ := hp
    exact ⟨hB, v, (hb.block b hlt).trans hh, pw_own_below hown hb, hne⟩
  rcases h with h | h
  · exact .inl (key _ h)
  · exact .inr (key _ h)
theorem decDigits_le (n : Nat) : (Lib.decDigits n).length ≤ n + 1 := by
  induction n using Nat.strongRecOn with
  | _ n ih =>
    rw [Lib.decDigits]
    split
    · simp
    · have := ih (n / 10) (by omega)
      simp only [List.length_append, List.length_cons, List.length_nil]
      omega
theorem markB_le (s : List UInt8) : (markB s).length ≤ 2 * s.length + 2 := by
  have := decDigits_le s.length
  simp only [markB, List.length_append, List.length_cons]
  omega
theorem marksB_take (l : List ByteArray) (k : Nat) (h : k < l.length) : marksB (l.take (k + 1)) = marksB (l.take k) ++ markB l[k].data.toList := by
  unfold marksB
  rw [List.take_succ_eq_append_getElem h, List.map_append, List.flatten_append]
  simp
theorem marksB_le (l : List ByteArray) (h : ∀ s ∈ l, s.size ≤ 1000000000) : ∀ k, k ≤ l.length → (marksB (l.take k)).length ≤ k * 2000000002 := by
  intro k
  induction k with
  | zero => intro _; simp [marksB]
  | succ k ih =>
    intro hk
    rw [marksB_take l k (by omega), List.length_append]
    have h1 := ih (by omega)
    have h2 := markB_le l[k].data.toList
    have h3 := h l[k] (List.getElem_mem (by omega))
    have h4 : l[k].data.toList.length = l[k].size := by simp
    omega
theorem mark_str (x : ByteArray) : ((⟨(Lib.decDigits x.size).toArray⟩ : ByteArray) ++ (⟨#[58]⟩ : ByteArray) ++ x).data.toList = markB x.data.toList := by
  have : x.data.toList.length = x.size := by simp
  simp [markB, ByteArray.toList_data_append, this]
set_option maxHeartbeats 2000000 in
set_option maxRecDepth 100000 in
theorem key_mark.calls (A0 : Option Addr) (c0 : Nat) (l0 : List ByteArray) (r : ByteArray) (w : World) (hr0 : Kd.C Kd.string w A0 l0.length l0) (hc0 : l0.length ≤ c0) (hrW : WF w) (h : key_mark.f l0 = some r) :
    Calls Tryz.prog 23 #[.slice A0 l0.length c0] w fun e w' => e = .returned (.string r) ∧ Below w.heap.size w w' := by
  unfold key_mark.f at h
  by_cases hok : markOk l0
  case neg => rw [if_neg hok] at h; cases h
  rw [if_pos hok] at h
  obtain rfl := Option.some.inj h
  clear h
  obtain ⟨hl, hs⟩ := hok
  have HS := Aside0.mk hs
  have HR := Aside0.mk hr0
  have HW := Aside0.mk hrW
  clear hr0 hs hrW
  have hfr := Lib.fresh_isBuilder 62 5 w
  go_enter Tryz.func23, Tryz.ntmps23
  go_wp2
  go_loopw [8] (fun i wr => ∃ k : Nat, k ≤ l0.length ∧ i = .int .i64 k ∧ Lib.IsBuilder 62 5 w.heap.size w.heap.size (Lib.byteCells (marksB (l0.take k))) wr ∧ Aside0 (Below w.heap.size w wr)) (fun i _ => l0.length - (intOf i).toNat)
  case atStart => exact ⟨0, Nat.zero_le _, rfl, hfr, ⟨(Below.refl _ _).alloc (Nat.le_refl _) _⟩⟩
  case round =>
    obtain ⟨k, hk, rfl, hb, HB⟩ := hrel
    have hsz : w.heap.size < wr.heap.size := by rcases hb with h | h <;> exact h.lt
    by_cases hlt : k < l0.length
    · obtain ⟨ad, cs, rfl, _⟩ := Kd.C_get HR.out ByteArray.empty (k : Int) (by omega) (by omega)
      have hcell0 := Kd.foot_string HR.out (k : Int) (by omega) (by omega)
      have hcell := pw_cell_below (HB.out) hcell0
      have hx : rdOf ByteArray.empty l0 (k : Int) = l0[k] := by simp [rdOf, hlt]
      rw [hx] at hcell
      simp only [Int.toNat_natCast] at hcell
      clear hcell0
      have htk := marksB_take l0 k hlt
      have hle := marksB_le l0 HS.out k (by omega)
      have hxs := HS.out l0[k] (List.getElem_mem hlt)
      obtain ⟨x, hy⟩ : ∃ y, y = l0[k] := ⟨_, rfl⟩
      rw [← hy] at hcell htk hxs
      have HT := Aside0.mk htk
      have hmx := mark_str x
      have hml := markB_le x.data.toList
      have hxl : x.data.toList.length = x.size := by simp
      rw [hxl] at hml
      have hdl := decDigits_le x.size
      clear hy hx htk hxl
      have CI := Itoa_nat x.size (by omega) wr (HW.out.below HB.out)
      obtain ⟨D, hD⟩ : ∃ D : ByteArray, D = ⟨(Lib.decDigits x.size).toArray⟩ := ⟨_, rfl⟩
      have hDs : D.size ≤ 1000000001 := by rw [hD]; show (Lib.decDigits x.size).toArray.size ≤ _; rw [List.size_toArray]; omega
      rw [← hD] at CI hmx
      have HMX := Aside0.mk hmx
      clear hD hmx hdl
      have HL : (Lib.byteCells (marksB (l0.take k))).length + (D ++ (⟨#[58]⟩ : ByteArray) ++ x).size ≤ 140737488355328 := by
        rw [Lib.byteCells_length, ByteArray.size_append, ByteArray.size_append]
        have : (⟨#[58]⟩ : ByteArray).size = 1 := rfl
        have : k * 2000000002 ≤ 1000 * 2000000002 := Nat.mul_le_mul_right _ (by omega)
        omega
      have HLA := Aside0.mk HL
      have p1 : (9223372036854775807 < D.size + 1) = False := eq_false (by omega)
      have p2 : (9223372036854775807 < D.size + 1 + x.size) = False := eq_false (by omega)
      have p5 : ((0 : Int) ≤ (k : Int)) = True := eq_true (by omega)
      have q5 : ((k : Int) < (l0.length : Int)) = True := eq_true (by omega)
      clear HL hle hml hxs
      go_wp2_with (go_at_call 33; refine CI.mono ?_; rintro e w1 ⟨rfl, hb1⟩)
      have hbb := isBuilder_below hb hb1
      have hz1 := hb1.size
      refine (Builder_WriteString w.heap.size w.heap.size _ _ _ hbb HLA.out (by omega)).mono ?_
      rintro e w2 ⟨rfl, hb2, hbel2, _⟩
      go_wp2
      go_roundw
      case rel => exact ⟨k + 1, by omega, by go_num, .inr (by rw [HT.out, byteCells_append, ← HMX.out, ← strCells_bytes]; exact hb2), ⟨(HB.out.trans (hb1.mono (by omega))).trans hbel2⟩⟩
      case measure => simp [intOf]; omega
    · have hkl : k = l0.length := by omega
      subst hkl
      rw [List.take_length] at hb
      have q5 : ((l0.length : Int) < (l0.length : Int)) = False := eq_false (by omega)
      go_wp2_with (go_at_call 27; refine (Tryz.Builder_String_any w.heap.size w.heap.size _ _ hb (by omega)).mono ?_; rintro e w1 ⟨rfl, hbb⟩)
      go_ret
      exact ⟨rfl, HB.out.trans hbb⟩

/-! ### key_Second: function 13, by hand -/
-- over 26 27 23 25
def second_go (k : Nat) (l : List S46) : List ByteArray → Option (List UInt8)
  | [] => some []
  | n :: r => (field_List_Get.f k l n).bind fun p => (second_go k l r).bind fun t => if p.2 = true then (if p.1.size ≤ 1000000000 then some (61 :: markB p.1.data.toList ++ t) else none) else some (45 :: t)
def key_Second.f (k : Nat) (l0 : List S46) (l1 : List ByteArray) : Option ByteArray := if l1.length ≤ 10000 then (second_go k l0 l1).bind fun t => some ⟨t.toArray⟩ else none
theorem second_go_mono (k : Nat) (l : List S46) : ∀ ns, LeO (second_go k l ns) (second_go (k + 1) l ns)
  | [] => LeO.refl _
  | n :: r => LeO.bind (field_List_Get.mono _ _ _) fun _ => LeO.bind (second_go_mono k l r) fun _ => LeO.refl _
theorem key_Second.mono : ∀ a0 a1 k, LeO (key_Second.f k a0 a1) (key_Second.f (k + 1) a0 a1) := by
  intro a0 a1 k
  unfold key_Second.f
  exact LeO.ite (LeO.bind (second_go_mono k a0 a1) fun _ => LeO.refl _) (LeO.refl _)
theorem second_step (k : Nat) (l : List S46) (n : ByteArray) (r : List ByteArray) (t : List UInt8) (h : second_go k l (n :: r) = some t) :
    ∃ s ok t', field_List_Get.f k l n = some (s, ok) ∧ second_go k l r = some t' ∧ (ok = true ∧ s.size ≤ 1000000000 ∧ t = 61 :: markB s.data.toList ++ t' ∨ ok = false ∧ t = 45 :: t') := by
  rw [second_go] at h
  obtain ⟨⟨s, ok⟩, h1, h⟩ := Option.bind_eq_some_iff.1 h
  obtain ⟨t', h2, h⟩ := Option.bind_eq_some_iff.1 h
  refine ⟨s, ok, t', h1, h2, ?_⟩
  cases ok with
  | true =>
    rw [if_pos rfl] at h
    split at h
    · exact .inl ⟨rfl, by assumption, (Option.some.inj h).symm⟩
    · cases h
  | false => rw [if_neg (by simp)] at h; exact .inr ⟨rfl, (Option.some.inj h).symm⟩
theorem second_len (k : Nat) (l : List S46) : ∀ ns t, second_go k l ns = some t → t.length ≤ ns.length * 2000000003
  | [], t, h => by obtain rfl := Option.some.inj h; simp
  | n :: r, t, h => by
    obtain ⟨s, ok, t', _, h2, h3⟩ := second_step k l n r t h
    have ih := second_len k l r t' h2
    rcases h3 with ⟨_, hs, rfl⟩ | ⟨_, rfl⟩
    · have := markB_le s.data.toList
      have h4 : s.data.toList.length = s.size := by simp
      simp only [List.length_cons, List.length_append] at *
      omega
    · simp only [List.length_cons] at *
      omega
theorem strRow_one (w : World) (s : ByteArray) (T : TypeId) : Kd.C Kd.string (w.alloc (.cells #[.string s] T)) (some ⟨w.heap.size, 0, none⟩) 1 [s] := by
  refine ⟨rfl, by omega, fun _ => ⟨_, rfl, fun j p hj => ⟨_, rfl, rfl, fun i u hu => ?_⟩⟩⟩
  rcases j with _ | j
  · obtain rfl : s = p := by simpa using hj
    rcases i with _ | i
    · obtain rfl : Value.string s = u := by simpa using hu
      simp [Addr.add]
    · simp at hu
  · simp at hj
theorem fresh_le_ {T e : TypeId} {B b : Nat} {bs : List Value} {w : World} (h : Lib.IsBuilder T e B b bs w) : b < w.heap.size := by rcases h with h | h <;> exact h.lt
set_option maxHeartbeats 2000000 in
set_option maxRecDepth 100000 in
theorem key_Second.calls (k : Nat) (A0 : Option Addr) (c0 : Nat) (l0 : List S46) (A1 : Option Addr) (c1 : Nat) (l1 : List ByteArray) (r : ByteArray) (w : World) (hr0 : Kd.C k46 w A0 l0.length l0) (hc0 : l0.length ≤ c0) (hr1 : Kd.C Kd.string w A1 l1.length l1) (hc1 : l1.length ≤ c1) (hrW : WF w) (h : key_Second.f k l0 l1 = some r) :
    Calls Tryz.prog 13 #[.slice A0 l0.length c0, .slice A1 l1.length c1] w fun e w' => e = .returned (.string r) ∧ Below w.heap.size w w' := by
  unfold key_Second.f at h
  by_cases hl : l1.length ≤ 10000
  case neg => rw [if_neg hl] at h; cases h
  rw [if_pos hl] at h
  obtain ⟨T, hT, h2⟩ := Option.bind_eq_some_iff.1 h
  obtain rfl := Option.some.inj h2
  clear h h2
  have hTl := second_len k l0 l1 T hT
  have hTb : T.length ≤ 30000000000000 := by
    have : l1.length * 2000000003 ≤ 10000 * 2000000003 := Nat.mul_le_mul_right _ hl
    omega
  have HTB := Aside0.mk hTb
  have HT := Aside0.mk hT
  have HL := Aside0.mk hr0
  have HR := Aside0.mk hr1
  have HC0 := Aside0.mk hc0
  have HW := Aside0.mk hrW
  clear hr0 hr1 hrW hT hTl hTb hc0
  have hfr := Lib.fresh_isBuilder 62 5 w
  go_enter Tryz.func13, Tryz.ntmps13
  go_wp2
  go_loopw [12] (fun i wr => ∃ (j : Nat) (bs : List UInt8), j ≤ l1.length ∧ i = .int .i64 j ∧ Lib.IsBuilder 62 5 w.heap.size w.heap.size (Lib.byteCells bs) wr ∧ Aside0 (∃ t, second_go k l0 (l1.drop j) = some t ∧ bs ++ t = T) ∧ Aside0 (Below w.heap.size w wr)) (fun i _ => l1.length - (intOf i).toNat)
  case atStart => exact ⟨0, [], Nat.zero_le _, rfl, hfr, ⟨T, by rw [List.drop_zero]; exact HT.out, rfl⟩, ⟨(Below.refl _ _).alloc (Nat.le_refl _) _⟩⟩
  case round =>
    clear HT
    obtain ⟨j, bs, hj, rfl, hb, HG, HB⟩ := hrel
    have hsz : w.heap.size < wr.heap.size := fresh_le_ hb
    by_cases hlt : j < l1.length
    · obtain ⟨ad, cs, rfl, _⟩ := Kd.C_get HR.out ByteArray.empty (j : Int) (by omega) (by omega)
      have hcell0 := Kd.foot_string HR.out (j : Int) (by omega) (by omega)
      have hcell := pw_cell_below (HB.out) hcell0
      have hx : rdOf ByteArray.empty l1 (j : Int) = l1[j] := by simp [rdOf, hlt]
      rw [hx] at hcell
      simp only [Int.toNat_natCast] at hcell
      clear hcell0
      obtain ⟨t, hg, ht⟩ := HG.out
      rw [List.drop_eq_getElem_cons hlt] at hg
      obtain ⟨s, ok, t', hget, hg', hcase⟩ := second_step _ _ _ _ _ hg
      obtain ⟨x, hy⟩ : ∃ y, y = l1[j] := ⟨_, rfl⟩
      rw [← hy] at hcell hget
      have CG := (field_List_Get.calls k A0 c0 l0 x s ok wr (Kd.C_below HL.out HB.out) HC0.out hget)
      have HG' := Aside0.mk hg'
      have hlen : bs.length + t.length ≤ 30000000000000 := by
        have := HTB.out
        rw [← ht, List.length_append] at this
        exact this
      clear hg hget hg' hy hx HG
      have p5 : ((0 : Int) ≤ (j : Int)) = True := eq_true (by omega)
      have q5 : ((j : Int) < (l1.length : Int)) = True := eq_true (by omega)
      rcases hcase with ⟨rfl, hs, rfl⟩ | ⟨rfl, rfl⟩
      · have hmk : key_mark.f [s] = some ⟨(marksB [s]).toArray⟩ := by
          unfold key_mark.f
          exact if_pos ⟨by simp, by simpa using hs⟩
        have hmv : marksB [s] = markB s.data.toList := by simp [marksB]
        obtain ⟨D, hD⟩ : ∃ D : ByteArray, D = ⟨(marksB [s]).toArray⟩ := ⟨_, rfl⟩
        have hDl : D.data.toList = markB s.data.toList := by rw [hD, hmv]
        rw [← hD] at hmk
        have hDz : D.data.toList.length = D.size := by simp
        have HDL := Aside0.mk hDl
        have HMK := Aside0.mk hmk
        have HT := Aside0.mk ht
        have hle : bs.length + (1 + D.size) ≤ 30000000000000 := by
          rw [← hDz, HDL.out]
          simp only [List.length_cons, List.length_append] at hlen
          omega
        have p1 : (9223372036854775807 < 1 + D.size) = False := eq_false (by omega)
        have HLA := Aside0.mk (show (Lib.byteCells bs).length + ((⟨#[61]⟩ : ByteArray) ++ D).size ≤ 140737488355328 by
          rw [Lib.byteCells_length, ByteArray.size_append]
          have : (⟨#[61]⟩ : ByteArray).size = 1 := rfl
          omega)
        clear hmk hDl hD hmv hDz hle hlen ht hs
        go_wp2_with (go_at_call 25; refine CG.mono ?_; rintro e w1 ⟨rfl, hb1⟩)
        have CM := key_mark.calls (some ⟨w1.heap.size, 0, none⟩) 1 [s] D (w1.alloc (.cells #[.string s] 9)) (strRow_one w1 s _) (by simp) (((HW.out.below HB.out).below hb1).below ((Below.refl _ _).alloc (Nat.le_refl _) _)) HMK.out
        refine CM.mono ?_
        rintro e w2 ⟨rfl, hb2⟩
        go_wp2_with fail
        have hba := ((Below.refl w1.heap.size w1).alloc (Nat.le_refl _) (.cells #[.string s] 9))
        have hb12 : Below w1.heap.size w1 w2 := hba.trans (hb2.mono (by simp))
        have hbb := isBuilder_below (isBuilder_below hb hb1) hb12
        have hz1 := hb1.size
        have hz2 := hb12.size
        refine (Builder_WriteString w.heap.size w.heap.size _ _ _ hbb HLA.out (by omega)).mono ?_
        rintro e w3 ⟨rfl, hb3, hbel3, _⟩
        go_wp2
        go_roundw
        case rel => exact ⟨j + 1, bs ++ (61 :: markB s.data.toList), by omega, by go_num, .inr (by rw [byteCells_append, ← HDL.out]; rw [strCells_bytes] at hb3; simpa [ByteArray.toList_data_append] using hb3), ⟨t', HG'.out, by rw [← HT.out]; simp⟩, ⟨((HB.out.trans (hb1.mono (by omega))).trans (hb12.mono (by omega))).trans hbel3⟩⟩
        case measure => simp [intOf]; omega
      · have HT := Aside0.mk ht
        have HLA := Aside0.mk (show (Lib.byteCells bs).length + (⟨#[45]⟩ : ByteArray).size ≤ 140737488355328 by
          rw [Lib.byteCells_length]
          have : (⟨#[45]⟩ : ByteArray).size = 1 := rfl
          omega)
        clear hlen ht
        go_wp2_with (go_at_call 25; refine CG.mono ?_; rintro e w1 ⟨rfl, hb1⟩)
        have hbb := isBuilder_below hb hb1
        have hz1 := hb1.size
        refine (Builder_WriteString w.heap.size w.heap.size _ _ _ hbb HLA.out (by omega)).mono ?_
        rintro e w3 ⟨rfl, hb3, hbel3, _⟩
        go_wp2
        go_roundw
        case rel => exact ⟨j + 1, bs ++ [45], by omega, by go_num, .inr (by rw [byteCells_append]; rw [strCells_bytes] at hb3; simpa using hb3), ⟨t', HG'.out, by rw [← HT.out]; simp⟩, ⟨(HB.out.trans (hb1.mono (by omega))).trans hbel3⟩⟩
        case measure => simp [intOf]; omega
    · have hkl : j = l1.length := by omega
      subst hkl
      obtain ⟨t, hg, ht⟩ := HG.out
      rw [List.drop_length] at hg
      obtain rfl := Option.some.inj hg
      rw [List.append_nil] at ht
      have HE := Aside0.mk ht
      clear hg ht
      have q5 : ((l1.length : Int) < (l1.length : Int)) = False := eq_false (by omega)
      go_wp2_with (go_at_call 27; refine (Tryz.Builder_String_any w.heap.size w.heap.size _ _ hb (by omega)).mono ?_; rintro e w1 ⟨rfl, hbb⟩)
      go_ret
      exact ⟨by rw [HE.out]; rfl, HB.out.trans hbb⟩

end Go.Proofs.YtagjgnmchgabgaaGreatDoor.PAll
