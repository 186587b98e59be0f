-- Text by a program of this session, over what print.py prints.
import Derived.Test.YtboeabdfnijaaaaDoorPAllx0
import Derived.Test.YtboeabdfnijaaaaDoorPAllx4
import Derived.Test.YtboeabdfnijaaaaDoorPAllx5
namespace Go.Proofs.YtboeabdfnijaaaaDoor.PAll
open Go.RowKit Go.Proofs.YtboeabdfnijaaaaDoorW.PrintWords Go.Proofs.YtboeabdfnijaaaaDoorW.PrintLast Go.Proofs.YtboeabdfnijaaaaDoorW.PrintMore
attribute [local go_sem] max2_int min2_int max_two min_two max_three min_three max_four min_four   -- for this text's walks alone
set_option linter.unusedVariables false
set_option linter.unusedSimpArgs false

/-! ### pantrylaw04_ControlSeconds: function 4 -/
mutual
def pantrylaw04_ControlSeconds.j0 : Nat → Int → Int → Int → Bool → Option (Bool)
  | 0, _, _, _, _ => none
  | k + 1, x0, x1, x2, x36 => if x36 = true then (some true) else ((some (([(⟨#[109, 97, 120, 45, 97, 103, 101]⟩ : ByteArray), (⟨#[83, 45, 77, 97, 120, 65, 103, 101]⟩ : ByteArray), (⟨#[109, 105, 110, 45, 102, 114, 101, 115, 104]⟩ : ByteArray), (⟨#[109, 97, 120, 45, 115, 116, 97, 108, 101]⟩ : ByteArray)] : List ByteArray) : List ByteArray)).bind fun y174 => (if 0 ≤ x2 then (if x2 < (y174.length : Int) then (if (rdOf ByteArray.empty y174 x2).size + 3 ≤ 9223372036854775807 then ((pantrylaw04_digits.f k x0).bind fun t178 => (if ((rdOf ByteArray.empty y174 x2) ++ (⟨#[61, 48, 48]⟩ : ByteArray)).size + t178.size ≤ 9223372036854775807 then (if (((rdOf ByteArray.empty y174 x2) ++ (⟨#[61, 48, 48]⟩ : ByteArray)) ++ t178).size + 7 ≤ 9223372036854775807 then (if ((((rdOf ByteArray.empty y174 x2) ++ (⟨#[61, 48, 48]⟩ : ByteArray)) ++ t178) ++ (⟨#[44, 32, 120, 61, 49, 44, 32]⟩ : ByteArray)).size + (rdOf ByteArray.empty y174 x2).size ≤ 9223372036854775807 then (if (((((rdOf ByteArray.empty y174 x2) ++ (⟨#[61, 48, 48]⟩ : ByteArray)) ++ t178) ++ (⟨#[44, 32, 120, 61, 49, 44, 32]⟩ : ByteArray)) ++ (rdOf ByteArray.empty y174 x2)).size + 2 ≤ 9223372036854775807 then ((pantrylaw04_digits.f k x1).bind fun t179 => (if ((((((rdOf ByteArray.empty y174 x2) ++ (⟨#[61, 48, 48]⟩ : ByteArray)) ++ t178) ++ (⟨#[44, 32, 120, 61, 49, 44, 32]⟩ : ByteArray)) ++ (rdOf ByteArray.empty y174 x2)) ++ (⟨#[61, 34]⟩ : ByteArray)).size + t179.size ≤ 9223372036854775807 then (if (((((((rdOf ByteArray.empty y174 x2) ++ (⟨#[61, 48, 48]⟩ : ByteArray)) ++ t178) ++ (⟨#[44, 32, 120, 61, 49, 44, 32]⟩ : ByteArray)) ++ (rdOf ByteArray.empty y174 x2)) ++ (⟨#[61, 34]⟩ : ByteArray)) ++ t179).size + 1 ≤ 9223372036854775807 then ((pantrylaw04_of.f k ((((((((rdOf ByteArray.empty y174 x2) ++ (⟨#[61, 48, 48]⟩ : ByteArray)) ++ t178) ++ (⟨#[44, 32, 120, 61, 49, 44, 32]⟩ : ByteArray)) ++ (rdOf ByteArray.empty y174 x2)) ++ (⟨#[61, 34]⟩ : ByteArray)) ++ t179) ++ (⟨#[34]⟩ : ByteArray))).bind fun bt180 => ((some (([bt180.2.2.2.2.2.2.1, bt180.2.2.2.2.2.2.2.1, bt180.2.2.2.2.2.2.2.2.1, bt180.2.2.2.2.2.2.2.2.2] : List Int) : List Int)).bind fun y191 => (pantrylaw04_ControlSeconds.l0 k x0 x1 x2 y191 (y191.length : Int) 0 bt180.1 bt180.2.1 bt180.2.2.1 bt180.2.2.2.1 bt180.2.2.2.2.1 bt180.2.2.2.2.2.1 bt180.2.2.2.2.2.2.1 bt180.2.2.2.2.2.2.2.1 bt180.2.2.2.2.2.2.2.2.1 bt180.2.2.2.2.2.2.2.2.2))) else (none)) else (none))) else (none)) else (none)) else (none)) else (none))) else (none)) else (none)) else (none)))
def pantrylaw04_ControlSeconds.l0 : Nat → Int → Int → Int → List Int → Int → Int → Bool → Bool → Bool → Bool → Bool → Bool → Int → Int → Int → Int → Option (Bool)
  | 0, _, _, _, _, _, _, _, _, _, _, _, _, _, _, _, _ => none
  | k + 1, x0, x1, x2, x64, x65, x66, x191000, x191001, x191002, x191003, x191004, x191005, x191006, x191007, x191008, x191009 => if x66 < x65 then (if 0 ≤ x66 then (if x66 < (x64.length : Int) then (if x66 = x2 then (if x2 = 2 then (if (rd x64 x66) = (mx x0 x1) then (pantrylaw04_ControlSeconds.l0 k x0 x1 x2 x64 x65 (wrap64 (x66 + 1)) x191000 x191001 x191002 x191003 x191004 x191005 x191006 x191007 x191008 x191009) else (some false)) else (if (rd x64 x66) = (mn x0 x1) then (pantrylaw04_ControlSeconds.l0 k x0 x1 x2 x64 x65 (wrap64 (x66 + 1)) x191000 x191001 x191002 x191003 x191004 x191005 x191006 x191007 x191008 x191009) else (some false))) else (if (rd x64 x66) = (-1) then (pantrylaw04_ControlSeconds.l0 k x0 x1 x2 x64 x65 (wrap64 (x66 + 1)) x191000 x191001 x191002 x191003 x191004 x191005 x191006 x191007 x191008 x191009) else (some false))) else (none)) else (none)) else (if x191000 = true then (some false) else (some (!x191004)))
end
def pantrylaw04_ControlSeconds.f (k : Nat) (a0 : Int) (a1 : Int) (a2 : Int) : Option (Bool) := (pantrylaw04_anchor.f k).bind fun t173 => (if t173 = true then (if a0 < 0 then (pantrylaw04_ControlSeconds.j0 k a0 a1 a2 true) else (if a0 > 2147483648 then (pantrylaw04_ControlSeconds.j0 k a0 a1 a2 true) else (if a1 < 0 then (pantrylaw04_ControlSeconds.j0 k a0 a1 a2 true) else (if a1 > 2147483648 then (pantrylaw04_ControlSeconds.j0 k a0 a1 a2 true) else (if a2 < 0 then (pantrylaw04_ControlSeconds.j0 k a0 a1 a2 true) else (pantrylaw04_ControlSeconds.j0 k a0 a1 a2 (decide (a2 > 3)))))))) else (some false))
theorem pantrylaw04_ControlSeconds.mono_l : ∀ k, (∀ y0 y1 y2 y3, LeO (pantrylaw04_ControlSeconds.j0 k y0 y1 y2 y3) (pantrylaw04_ControlSeconds.j0 (k + 1) y0 y1 y2 y3)) ∧ (∀ y0 y1 y2 y3 y4 y5 y6 y7 y8 y9 y10 y11 y12 y13 y14 y15, LeO (pantrylaw04_ControlSeconds.l0 k y0 y1 y2 y3 y4 y5 y6 y7 y8 y9 y10 y11 y12 y13 y14 y15) (pantrylaw04_ControlSeconds.l0 (k + 1) y0 y1 y2 y3 y4 y5 y6 y7 y8 y9 y10 y11 y12 y13 y14 y15))
  | 0 => ⟨fun _ _ _ _ r h => by simp [pantrylaw04_ControlSeconds.j0] at h, fun _ _ _ _ _ _ _ _ _ _ _ _ _ _ _ _ r h => by simp [pantrylaw04_ControlSeconds.l0] at h⟩
  | k + 1 => by
    obtain ⟨ih0, ih1⟩ := pantrylaw04_ControlSeconds.mono_l k
    refine ⟨?_, ?_⟩
    · intro y0 y1 y2 y3
      unfold pantrylaw04_ControlSeconds.j0
      repeat' first
      | (with_reducible exact ih0 _ _ _ _)
      | (with_reducible exact ih1 _ _ _ _ _ _ _ _ _ _ _ _ _ _ _ _)
      | (with_reducible exact pantrylaw04_anchor.mono _)
      | (with_reducible exact pantrylaw04_digits.mono _ _)
      | (with_reducible exact pantrylaw04_of.mono _ _)
      | (with_reducible exact LeO.refl _)
      | (with_reducible exact LeO.none _)
      | (with_reducible refine LeO.ite ?_ ?_)
      | (with_reducible refine LeO.bind ?_ (fun _ => ?_))
      | exact ih0 _ _ _ _
      | exact ih1 _ _ _ _ _ _ _ _ _ _ _ _ _ _ _ _
      | exact pantrylaw04_anchor.mono _
      | exact pantrylaw04_digits.mono _ _
      | exact pantrylaw04_of.mono _ _
      | exact LeO.none _
      | refine LeO.ite ?_ ?_
      | refine LeO.bind ?_ (fun _ => ?_)
    · intro y0 y1 y2 y3 y4 y5 y6 y7 y8 y9 y10 y11 y12 y13 y14 y15
      unfold pantrylaw04_ControlSeconds.l0
      repeat' first
      | (with_reducible exact ih0 _ _ _ _)
      | (with_reducible exact ih1 _ _ _ _ _ _ _ _ _ _ _ _ _ _ _ _)
      | (with_reducible exact pantrylaw04_anchor.mono _)
      | (with_reducible exact pantrylaw04_digits.mono _ _)
      | (with_reducible exact pantrylaw04_of.mono _ _)
      | (with_reducible exact LeO.refl _)
      | (with_reducible exact LeO.none _)
      | (with_reducible refine LeO.ite ?_ ?_)
      | (with_reducible refine LeO.bind ?_ (fun _ => ?_))
      | exact ih0 _ _ _ _
      | exact ih1 _ _ _ _ _ _ _ _ _ _ _ _ _ _ _ _
      | exact pantrylaw04_anchor.mono _
      | exact pantrylaw04_digits.mono _ _
      | exact pantrylaw04_of.mono _ _
      | exact LeO.none _
      | refine LeO.ite ?_ ?_
      | refine LeO.bind ?_ (fun _ => ?_)
theorem pantrylaw04_ControlSeconds.mono : ∀ a0 a1 a2 k, LeO (pantrylaw04_ControlSeconds.f k a0 a1 a2) (pantrylaw04_ControlSeconds.f (k + 1) a0 a1 a2) := by
  intro a0 a1 a2 k
  obtain ⟨ih0, ih1⟩ := pantrylaw04_ControlSeconds.mono_l k
  unfold pantrylaw04_ControlSeconds.f
  repeat' first
      | (with_reducible exact ih0 _ _ _ _)
      | (with_reducible exact ih1 _ _ _ _ _ _ _ _ _ _ _ _ _ _ _ _)
      | (with_reducible exact pantrylaw04_anchor.mono _)
      | (with_reducible exact pantrylaw04_digits.mono _ _)
      | (with_reducible exact pantrylaw04_of.mono _ _)
      | (with_reducible exact LeO.refl _)
      | (with_reducible exact LeO.none _)
      | (with_reducible refine LeO.ite ?_ ?_)
      | (with_reducible refine LeO.bind ?_ (fun _ => ?_))
      | exact ih0 _ _ _ _
      | exact ih1 _ _ _ _ _ _ _ _ _ _ _ _ _ _ _ _
      | exact pantrylaw04_anchor.mono _
      | exact pantrylaw04_digits.mono _ _
      | exact pantrylaw04_of.mono _ _
      | exact LeO.none _
      | refine LeO.ite ?_ ?_
      | refine LeO.bind ?_ (fun _ => ?_)
set_option maxHeartbeats 8000000 in
set_option maxRecDepth 100000 in
theorem pantrylaw04_ControlSeconds.calls (k : Nat) (a0 : Int) (a1 : Int) (a2 : Int) (r : Bool) (w : World) (h : pantrylaw04_ControlSeconds.f k a0 a1 a2 = some r) :
    Calls Tryd.prog 4 #[.int .i64 a0, .int .i64 a1, .int .i64 a2] w fun e w' => e = .returned (.bool r) ∧ Below w.heap.size w w' := by
  have hu29 := Tryd.underlying29
  have HB := Aside0.mk (Below.refl w.heap.size w)
  have H : ((pantrylaw04_anchor.f k).bind fun t173 => (if t173 = true then (if a0 < 0 then (pantrylaw04_ControlSeconds.j0 k a0 a1 a2 true) else (if a0 > 2147483648 then (pantrylaw04_ControlSeconds.j0 k a0 a1 a2 true) else (if a1 < 0 then (pantrylaw04_ControlSeconds.j0 k a0 a1 a2 true) else (if a1 > 2147483648 then (pantrylaw04_ControlSeconds.j0 k a0 a1 a2 true) else (if a2 < 0 then (pantrylaw04_ControlSeconds.j0 k a0 a1 a2 true) else (pantrylaw04_ControlSeconds.j0 k a0 a1 a2 (decide (a2 > 3)))))))) else (some false))) = some r := h
  clear h
  replace H := Option.bind_eq_some_iff.mp H
  obtain ⟨t173, A40, H⟩ := H
  replace H : (if t173 = true then (if a0 < 0 then (pantrylaw04_ControlSeconds.j0 k a0 a1 a2 true) else (if a0 > 2147483648 then (pantrylaw04_ControlSeconds.j0 k a0 a1 a2 true) else (if a1 < 0 then (pantrylaw04_ControlSeconds.j0 k a0 a1 a2 true) else (if a1 > 2147483648 then (pantrylaw04_ControlSeconds.j0 k a0 a1 a2 true) else (if a2 < 0 then (pantrylaw04_ControlSeconds.j0 k a0 a1 a2 true) else (pantrylaw04_ControlSeconds.j0 k a0 a1 a2 (decide (a2 > 3)))))))) else (some false)) = some r := H
  have A4 := Aside0.mk A40
  clear A40
  by_cases c5 : t173 = true
  · subst c5
    have H1 : (if a0 < 0 then (pantrylaw04_ControlSeconds.j0 k a0 a1 a2 true) else (if a0 > 2147483648 then (pantrylaw04_ControlSeconds.j0 k a0 a1 a2 true) else (if a1 < 0 then (pantrylaw04_ControlSeconds.j0 k a0 a1 a2 true) else (if a1 > 2147483648 then (pantrylaw04_ControlSeconds.j0 k a0 a1 a2 true) else (if a2 < 0 then (pantrylaw04_ControlSeconds.j0 k a0 a1 a2 true) else (pantrylaw04_ControlSeconds.j0 k a0 a1 a2 (decide (a2 > 3)))))))) = some r := by rw [if_pos rfl] at H; exact H
    clear H
    have H := H1
    clear H1
    have HC6 := Aside0.mk H
    clear H
    go_enter Tryd.func4, Tryd.ntmps4
    go_upto_region 3 with (first | ((with_reducible refine gate_callee (f := 9) rfl ?_); refine goesL_ (some 13) rfl rfl Tryd.func9 (by kernel_rfl) rfl #[] rfl (by (try simp only [List.map_toArray, List.map_cons, List.map_nil]); first | done | rfl | (simp only [List.length_drop, List.length_take]; rfl)) ?_; (with_reducible refine (pantrylaw04_anchor.calls k  true _ A4.out).mono ?_); rintro e w7 ⟨rfl, hb⟩; refine ⟨_, rfl, ?_⟩; have n0_ := Aside0.mk (below_step (by repeat (first | (with_reducible first | exact HB.out | apply below_alloc | apply pw_below_drewN | apply below_drew1) | exact HB.out)) hb); clear HB; have HB := n0_; clear n0_; (try clear hb); (try clear hb2); (try clear hk); (try clear hi)))
    (try simp only [Act.put, List.setIfInBounds_toArray, List.set_cons_zero, List.set_cons_succ])
    go_cut [36] (fun v36 wc => ∃ (kq : Nat) (x36_5 : Bool), v36 = .bool x36_5 ∧ Aside0 (pantrylaw04_ControlSeconds.j0 kq a0 a1 a2 x36_5 = some r) ∧ Aside0 (kq ≤ k) ∧ Aside0 (Below w.heap.size w wc))
    case first =>
      have H := HC6.out
      clear HC6
      by_cases c8 : a0 < 0
      · rw [if_pos c8] at H
        have c8b0 : decide (a0 < 0) = true := decide_eq_true c8
        clear c8
        (first | rw [c8b0] | (simp only [i64_w, i32_w]; rw [c8b0]) | skip)
        have H' := Aside0.mk H
        clear H
        go_wp2
        go_meet
        case rel => exact ⟨_, (true), (by first | rfl | (simp; done) | (simp [*]; done)), H', ⟨by first | omega | exact Nat.le_refl _⟩, ⟨by repeat (first | (with_reducible first | exact HB.out | apply below_alloc | apply pw_below_drewN | apply below_drew1) | exact HB.out)⟩⟩
      · rw [if_neg c8] at H
        have c8b0 : decide (a0 < 0) = false := decide_eq_false c8
        clear c8
        (first | rw [c8b0] | (simp only [i64_w, i32_w]; rw [c8b0]) | skip)
        by_cases c9 : a0 > 2147483648
        · rw [if_pos c9] at H
          have c9b0 : decide (2147483648 < a0) = true := decide_eq_true c9
          clear c9
          have H' := Aside0.mk H
          clear H
          go_wp2
          go_meet
          case rel => exact ⟨_, (true), (by first | rfl | (simp; done) | (simp [*]; done)), H', ⟨by first | omega | exact Nat.le_refl _⟩, ⟨by repeat (first | (with_reducible first | exact HB.out | apply below_alloc | apply pw_below_drewN | apply below_drew1) | exact HB.out)⟩⟩
        · rw [if_neg c9] at H
          have c9b0 : decide (2147483648 < a0) = false := decide_eq_false c9
          clear c9
          by_cases c10 : a1 < 0
          · rw [if_pos c10] at H
            have c10b0 : decide (a1 < 0) = true := decide_eq_true c10
            clear c10
            have H' := Aside0.mk H
            clear H
            go_wp2
            go_meet
            case rel => exact ⟨_, (true), (by first | rfl | (simp; done) | (simp [*]; done)), H', ⟨by first | omega | exact Nat.le_refl _⟩, ⟨by repeat (first | (with_reducible first | exact HB.out | apply below_alloc | apply pw_below_drewN | apply below_drew1) | exact HB.out)⟩⟩
          · rw [if_neg c10] at H
            have c10b0 : decide (a1 < 0) = false := decide_eq_false c10
            clear c10
            by_cases c11 : a1 > 2147483648
            · rw [if_pos c11] at H
              have c11b0 : decide (2147483648 < a1) = true := decide_eq_true c11
              clear c11
              have H' := Aside0.mk H
              clear H
              go_wp2
              go_meet
              case rel => exact ⟨_, (true), (by first | rfl | (simp; done) | (simp [*]; done)), H', ⟨by first | omega | exact Nat.le_refl _⟩, ⟨by repeat (first | (with_reducible first | exact HB.out | apply below_alloc | apply pw_below_drewN | apply below_drew1) | exact HB.out)⟩⟩
            · rw [if_neg c11] at H
              have c11b0 : decide (2147483648 < a1) = false := decide_eq_false c11
              clear c11
              by_cases c12 : a2 < 0
              · rw [if_pos c12] at H
                have c12b0 : decide (a2 < 0) = true := decide_eq_true c12
                clear c12
                have H' := Aside0.mk H
                clear H
                go_wp2
                go_meet
                case rel => exact ⟨_, (true), (by first | rfl | (simp; done) | (simp [*]; done)), H', ⟨by first | omega | exact Nat.le_refl _⟩, ⟨by repeat (first | (with_reducible first | exact HB.out | apply below_alloc | apply pw_below_drewN | apply below_drew1) | exact HB.out)⟩⟩
              · rw [if_neg c12] at H
                have c12b0 : decide (a2 < 0) = false := decide_eq_false c12
                clear c12
                have H' := Aside0.mk H
                clear H
                go_wp2
                go_meet
                case rel => exact ⟨_, (decide (a2 > 3)), (by first | rfl | (simp; done) | (simp [*]; done)), H', ⟨by first | omega | exact Nat.le_refl _⟩, ⟨by repeat (first | (with_reducible first | exact HB.out | apply below_alloc | apply pw_below_drewN | apply below_drew1) | exact HB.out)⟩⟩
    case rest =>
      clear HC6
      try clear c1
      try clear p2
      try clear c4
      try clear c5
      try clear c8
      try clear c8b0
      try clear c9
      try clear c9b0
      try clear c10
      try clear c10b0
      try clear c11
      try clear c11b0
      try clear c12
      try clear c12b0
      obtain ⟨kq, x36_5, rfl, HA, HJ5, HB⟩ := hcut
      cases kq with
      | zero => exact absurd HA.out (by simp [pantrylaw04_ControlSeconds.j0])
      | succ kj5 =>
        have H := HA.out
        clear HA
        simp only [pantrylaw04_ControlSeconds.j0] at H
        by_cases c13 : x36_5 = true
        · subst c13
          have H1 : (some true) = some r := by rw [if_pos rfl] at H; exact H
          clear H
          have H := H1
          clear H1
          obtain rfl := Option.some.inj H
          go_wp2
          go_ret
          exact ⟨by first | rfl | (generalize ByteArray.toList _ = l_; cases l_ <;> rfl) | (simp [errW_none, errW_some] <;> rfl) | (simp [*, errW_none, errW_some] <;> rfl), by repeat (first | (with_reducible first | exact HB.out | apply below_alloc | apply pw_below_drewN | apply below_drew1) | exact HB.out)⟩
        · replace c13 := Bool.eq_false_iff.mpr c13
          subst c13
          have H1 : ((some (([(⟨#[109, 97, 120, 45, 97, 103, 101]⟩ : ByteArray), (⟨#[83, 45, 77, 97, 120, 65, 103, 101]⟩ : ByteArray), (⟨#[109, 105, 110, 45, 102, 114, 101, 115, 104]⟩ : ByteArray), (⟨#[109, 97, 120, 45, 115, 116, 97, 108, 101]⟩ : ByteArray)] : List ByteArray) : List ByteArray)).bind fun y174 => (if 0 ≤ a2 then (if a2 < (y174.length : Int) then (if (rdOf ByteArray.empty y174 a2).size + 3 ≤ 9223372036854775807 then ((pantrylaw04_digits.f kj5 a0).bind fun t178 => (if ((rdOf ByteArray.empty y174 a2) ++ (⟨#[61, 48, 48]⟩ : ByteArray)).size + t178.size ≤ 9223372036854775807 then (if (((rdOf ByteArray.empty y174 a2) ++ (⟨#[61, 48, 48]⟩ : ByteArray)) ++ t178).size + 7 ≤ 9223372036854775807 then (if ((((rdOf ByteArray.empty y174 a2) ++ (⟨#[61, 48, 48]⟩ : ByteArray)) ++ t178) ++ (⟨#[44, 32, 120, 61, 49, 44, 32]⟩ : ByteArray)).size + (rdOf ByteArray.empty y174 a2).size ≤ 9223372036854775807 then (if (((((rdOf ByteArray.empty y174 a2) ++ (⟨#[61, 48, 48]⟩ : ByteArray)) ++ t178) ++ (⟨#[44, 32, 120, 61, 49, 44, 32]⟩ : ByteArray)) ++ (rdOf ByteArray.empty y174 a2)).size + 2 ≤ 9223372036854775807 then ((pantrylaw04_digits.f kj5 a1).bind fun t179 => (if ((((((rdOf ByteArray.empty y174 a2) ++ (⟨#[61, 48, 48]⟩ : ByteArray)) ++ t178) ++ (⟨#[44, 32, 120, 61, 49, 44, 32]⟩ : ByteArray)) ++ (rdOf ByteArray.empty y174 a2)) ++ (⟨#[61, 34]⟩ : ByteArray)).size + t179.size ≤ 9223372036854775807 then (if (((((((rdOf ByteArray.empty y174 a2) ++ (⟨#[61, 48, 48]⟩ : ByteArray)) ++ t178) ++ (⟨#[44, 32, 120, 61, 49, 44, 32]⟩ : ByteArray)) ++ (rdOf ByteArray.empty y174 a2)) ++ (⟨#[61, 34]⟩ : ByteArray)) ++ t179).size + 1 ≤ 9223372036854775807 then ((pantrylaw04_of.f kj5 ((((((((rdOf ByteArray.empty y174 a2) ++ (⟨#[61, 48, 48]⟩ : ByteArray)) ++ t178) ++ (⟨#[44, 32, 120, 61, 49, 44, 32]⟩ : ByteArray)) ++ (rdOf ByteArray.empty y174 a2)) ++ (⟨#[61, 34]⟩ : ByteArray)) ++ t179) ++ (⟨#[34]⟩ : ByteArray))).bind fun bt180 => ((some (([bt180.2.2.2.2.2.2.1, bt180.2.2.2.2.2.2.2.1, bt180.2.2.2.2.2.2.2.2.1, bt180.2.2.2.2.2.2.2.2.2] : List Int) : List Int)).bind fun y191 => (pantrylaw04_ControlSeconds.l0 kj5 a0 a1 a2 y191 (y191.length : Int) 0 bt180.1 bt180.2.1 bt180.2.2.1 bt180.2.2.2.1 bt180.2.2.2.2.1 bt180.2.2.2.2.2.1 bt180.2.2.2.2.2.2.1 bt180.2.2.2.2.2.2.2.1 bt180.2.2.2.2.2.2.2.2.1 bt180.2.2.2.2.2.2.2.2.2))) else (none)) else (none))) else (none)) else (none)) else (none)) else (none))) else (none)) else (none)) else (none))) = some r := by rw [if_neg (show ¬ (false = true) by decide)] at H; exact H
          clear H
          have H := H1
          clear H1
          obtain ⟨y174, hy174⟩ : ∃ y_ : List ByteArray, y_ = (([(⟨#[109, 97, 120, 45, 97, 103, 101]⟩ : ByteArray), (⟨#[83, 45, 77, 97, 120, 65, 103, 101]⟩ : ByteArray), (⟨#[109, 105, 110, 45, 102, 114, 101, 115, 104]⟩ : ByteArray), (⟨#[109, 97, 120, 45, 115, 116, 97, 108, 101]⟩ : ByteArray)] : List ByteArray)) := ⟨_, rfl⟩
          replace H : (if 0 ≤ a2 then (if a2 < (y174.length : Int) then (if (rdOf ByteArray.empty y174 a2).size + 3 ≤ 9223372036854775807 then ((pantrylaw04_digits.f kj5 a0).bind fun t178 => (if ((rdOf ByteArray.empty y174 a2) ++ (⟨#[61, 48, 48]⟩ : ByteArray)).size + t178.size ≤ 9223372036854775807 then (if (((rdOf ByteArray.empty y174 a2) ++ (⟨#[61, 48, 48]⟩ : ByteArray)) ++ t178).size + 7 ≤ 9223372036854775807 then (if ((((rdOf ByteArray.empty y174 a2) ++ (⟨#[61, 48, 48]⟩ : ByteArray)) ++ t178) ++ (⟨#[44, 32, 120, 61, 49, 44, 32]⟩ : ByteArray)).size + (rdOf ByteArray.empty y174 a2).size ≤ 9223372036854775807 then (if (((((rdOf ByteArray.empty y174 a2) ++ (⟨#[61, 48, 48]⟩ : ByteArray)) ++ t178) ++ (⟨#[44, 32, 120, 61, 49, 44, 32]⟩ : ByteArray)) ++ (rdOf ByteArray.empty y174 a2)).size + 2 ≤ 9223372036854775807 then ((pantrylaw04_digits.f kj5 a1).bind fun t179 => (if ((((((rdOf ByteArray.empty y174 a2) ++ (⟨#[61, 48, 48]⟩ : ByteArray)) ++ t178) ++ (⟨#[44, 32, 120, 61, 49, 44, 32]⟩ : ByteArray)) ++ (rdOf ByteArray.empty y174 a2)) ++ (⟨#[61, 34]⟩ : ByteArray)).size + t179.size ≤ 9223372036854775807 then (if (((((((rdOf ByteArray.empty y174 a2) ++ (⟨#[61, 48, 48]⟩ : ByteArray)) ++ t178) ++ (⟨#[44, 32, 120, 61, 49, 44, 32]⟩ : ByteArray)) ++ (rdOf ByteArray.empty y174 a2)) ++ (⟨#[61, 34]⟩ : ByteArray)) ++ t179).size + 1 ≤ 9223372036854775807 then ((pantrylaw04_of.f kj5 ((((((((rdOf ByteArray.empty y174 a2) ++ (⟨#[61, 48, 48]⟩ : ByteArray)) ++ t178) ++ (⟨#[44, 32, 120, 61, 49, 44, 32]⟩ : ByteArray)) ++ (rdOf ByteArray.empty y174 a2)) ++ (⟨#[61, 34]⟩ : ByteArray)) ++ t179) ++ (⟨#[34]⟩ : ByteArray))).bind fun bt180 => ((some (([bt180.2.2.2.2.2.2.1, bt180.2.2.2.2.2.2.2.1, bt180.2.2.2.2.2.2.2.2.1, bt180.2.2.2.2.2.2.2.2.2] : List Int) : List Int)).bind fun y191 => (pantrylaw04_ControlSeconds.l0 kj5 a0 a1 a2 y191 (y191.length : Int) 0 bt180.1 bt180.2.1 bt180.2.2.1 bt180.2.2.2.1 bt180.2.2.2.2.1 bt180.2.2.2.2.2.1 bt180.2.2.2.2.2.2.1 bt180.2.2.2.2.2.2.2.1 bt180.2.2.2.2.2.2.2.2.1 bt180.2.2.2.2.2.2.2.2.2))) else (none)) else (none))) else (none)) else (none)) else (none)) else (none))) else (none)) else (none)) else (none)) = some r := by first | (rw [hy174]; with_reducible exact H) | (have H2_ := (Option.bind_some _ _).symm.trans H; rw [hy174]; with_reducible exact H2_) | (have H2_ := (Option.bind_some _ _).symm.trans H; with_reducible exact H2_) | with_reducible exact H | (rw [hy174]; exact H) | exact H
          have Ny174 := Aside0.mk hy174
          clear hy174
          by_cases c14 : 0 ≤ a2
          · rw [if_pos c14] at H
            have c14b0 : decide (0 ≤ a2) = true := decide_eq_true c14
            clear c14
            by_cases c15 : a2 < (y174.length : Int)
            · rw [if_pos c15] at H
              have c15b0 : decide (a2 < (y174.length : Int)) = true := decide_eq_true c15
              clear c15
              by_cases c16 : (rdOf ByteArray.empty y174 a2).size + 3 ≤ 9223372036854775807
              · rw [if_pos c16] at H
                have c16b0 := eq_true c16
                have c16b1 : decide ((rdOf ByteArray.empty y174 a2).size + 3 ≤ 9223372036854775807) = true := decide_eq_true c16
                try have c16b2 : (9223372036854775807 < (rdOf ByteArray.empty y174 a2).size + 3) = False := eq_false (Nat.not_lt.2 c16)
                replace H := Option.bind_eq_some_iff.mp H
                obtain ⟨t178, A170, H⟩ := H
                replace H : (if ((rdOf ByteArray.empty y174 a2) ++ (⟨#[61, 48, 48]⟩ : ByteArray)).size + t178.size ≤ 9223372036854775807 then (if (((rdOf ByteArray.empty y174 a2) ++ (⟨#[61, 48, 48]⟩ : ByteArray)) ++ t178).size + 7 ≤ 9223372036854775807 then (if ((((rdOf ByteArray.empty y174 a2) ++ (⟨#[61, 48, 48]⟩ : ByteArray)) ++ t178) ++ (⟨#[44, 32, 120, 61, 49, 44, 32]⟩ : ByteArray)).size + (rdOf ByteArray.empty y174 a2).size ≤ 9223372036854775807 then (if (((((rdOf ByteArray.empty y174 a2) ++ (⟨#[61, 48, 48]⟩ : ByteArray)) ++ t178) ++ (⟨#[44, 32, 120, 61, 49, 44, 32]⟩ : ByteArray)) ++ (rdOf ByteArray.empty y174 a2)).size + 2 ≤ 9223372036854775807 then ((pantrylaw04_digits.f kj5 a1).bind fun t179 => (if ((((((rdOf ByteArray.empty y174 a2) ++ (⟨#[61, 48, 48]⟩ : ByteArray)) ++ t178) ++ (⟨#[44, 32, 120, 61, 49, 44, 32]⟩ : ByteArray)) ++ (rdOf ByteArray.empty y174 a2)) ++ (⟨#[61, 34]⟩ : ByteArray)).size + t179.size ≤ 9223372036854775807 then (if (((((((rdOf ByteArray.empty y174 a2) ++ (⟨#[61, 48, 48]⟩ : ByteArray)) ++ t178) ++ (⟨#[44, 32, 120, 61, 49, 44, 32]⟩ : ByteArray)) ++ (rdOf ByteArray.empty y174 a2)) ++ (⟨#[61, 34]⟩ : ByteArray)) ++ t179).size + 1 ≤ 9223372036854775807 then ((pantrylaw04_of.f kj5 ((((((((rdOf ByteArray.empty y174 a2) ++ (⟨#[61, 48, 48]⟩ : ByteArray)) ++ t178) ++ (⟨#[44, 32, 120, 61, 49, 44, 32]⟩ : ByteArray)) ++ (rdOf ByteArray.empty y174 a2)) ++ (⟨#[61, 34]⟩ : ByteArray)) ++ t179) ++ (⟨#[34]⟩ : ByteArray))).bind fun bt180 => ((some (([bt180.2.2.2.2.2.2.1, bt180.2.2.2.2.2.2.2.1, bt180.2.2.2.2.2.2.2.2.1, bt180.2.2.2.2.2.2.2.2.2] : List Int) : List Int)).bind fun y191 => (pantrylaw04_ControlSeconds.l0 kj5 a0 a1 a2 y191 (y191.length : Int) 0 bt180.1 bt180.2.1 bt180.2.2.1 bt180.2.2.2.1 bt180.2.2.2.2.1 bt180.2.2.2.2.2.1 bt180.2.2.2.2.2.2.1 bt180.2.2.2.2.2.2.2.1 bt180.2.2.2.2.2.2.2.2.1 bt180.2.2.2.2.2.2.2.2.2))) else (none)) else (none))) else (none)) else (none)) else (none)) else (none)) = some r := H
                have A17 := Aside0.mk A170
                clear A170
                by_cases c18 : ((rdOf ByteArray.empty y174 a2) ++ (⟨#[61, 48, 48]⟩ : ByteArray)).size + t178.size ≤ 9223372036854775807
                · rw [if_pos c18] at H
                  have c18b0 := eq_true c18
                  have c18b1 : decide (((rdOf ByteArray.empty y174 a2) ++ (⟨#[61, 48, 48]⟩ : ByteArray)).size + t178.size ≤ 9223372036854775807) = true := decide_eq_true c18
                  try have c18b2 : (9223372036854775807 < ((rdOf ByteArray.empty y174 a2) ++ (⟨#[61, 48, 48]⟩ : ByteArray)).size + t178.size) = False := eq_false (Nat.not_lt.2 c18)
                  try have c18b3 : (9223372036854775807 < (rdOf ByteArray.empty y174 a2).size + 3 + t178.size) = False := by have h_ := c18; (simp only [ByteArray.size_append] at h_); exact eq_false (Nat.not_lt.2 h_)
                  by_cases c19 : (((rdOf ByteArray.empty y174 a2) ++ (⟨#[61, 48, 48]⟩ : ByteArray)) ++ t178).size + 7 ≤ 9223372036854775807
                  · rw [if_pos c19] at H
                    have c19b0 := eq_true c19
                    have c19b1 : decide ((((rdOf ByteArray.empty y174 a2) ++ (⟨#[61, 48, 48]⟩ : ByteArray)) ++ t178).size + 7 ≤ 9223372036854775807) = true := decide_eq_true c19
                    try have c19b2 : (9223372036854775807 < (((rdOf ByteArray.empty y174 a2) ++ (⟨#[61, 48, 48]⟩ : ByteArray)) ++ t178).size + 7) = False := eq_false (Nat.not_lt.2 c19)
                    try have c19b3 : (9223372036854775807 < (rdOf ByteArray.empty y174 a2).size + 3 + (t178).size + 7) = False := by have h_ := c19; (simp only [ByteArray.size_append] at h_); exact eq_false (Nat.not_lt.2 h_)
                    by_cases c20 : ((((rdOf ByteArray.empty y174 a2) ++ (⟨#[61, 48, 48]⟩ : ByteArray)) ++ t178) ++ (⟨#[44, 32, 120, 61, 49, 44, 32]⟩ : ByteArray)).size + (rdOf ByteArray.empty y174 a2).size ≤ 9223372036854775807
                    · rw [if_pos c20] at H
                      have c20b0 := eq_true c20
                      have c20b1 : decide (((((rdOf ByteArray.empty y174 a2) ++ (⟨#[61, 48, 48]⟩ : ByteArray)) ++ t178) ++ (⟨#[44, 32, 120, 61, 49, 44, 32]⟩ : ByteArray)).size + (rdOf ByteArray.empty y174 a2).size ≤ 9223372036854775807) = true := decide_eq_true c20
                      try have c20b2 : (9223372036854775807 < ((((rdOf ByteArray.empty y174 a2) ++ (⟨#[61, 48, 48]⟩ : ByteArray)) ++ t178) ++ (⟨#[44, 32, 120, 61, 49, 44, 32]⟩ : ByteArray)).size + (rdOf ByteArray.empty y174 a2).size) = False := eq_false (Nat.not_lt.2 c20)
                      try have c20b3 : (9223372036854775807 < (rdOf ByteArray.empty y174 a2).size + 3 + (t178).size + 7 + (rdOf ByteArray.empty y174 a2).size) = False := by have h_ := c20; (simp only [ByteArray.size_append] at h_); exact eq_false (Nat.not_lt.2 h_)
                      by_cases c21 : (((((rdOf ByteArray.empty y174 a2) ++ (⟨#[61, 48, 48]⟩ : ByteArray)) ++ t178) ++ (⟨#[44, 32, 120, 61, 49, 44, 32]⟩ : ByteArray)) ++ (rdOf ByteArray.empty y174 a2)).size + 2 ≤ 9223372036854775807
                      · rw [if_pos c21] at H
                        have c21b0 := eq_true c21
                        have c21b1 : decide ((((((rdOf ByteArray.empty y174 a2) ++ (⟨#[61, 48, 48]⟩ : ByteArray)) ++ t178) ++ (⟨#[44, 32, 120, 61, 49, 44, 32]⟩ : ByteArray)) ++ (rdOf ByteArray.empty y174 a2)).size + 2 ≤ 9223372036854775807) = true := decide_eq_true c21
                        try have c21b2 : (9223372036854775807 < (((((rdOf ByteArray.empty y174 a2) ++ (⟨#[61, 48, 48]⟩ : ByteArray)) ++ t178) ++ (⟨#[44, 32, 120, 61, 49, 44, 32]⟩ : ByteArray)) ++ (rdOf ByteArray.empty y174 a2)).size + 2) = False := eq_false (Nat.not_lt.2 c21)
                        try have c21b3 : (9223372036854775807 < (rdOf ByteArray.empty y174 a2).size + 3 + (t178).size + 7 + (rdOf ByteArray.empty y174 a2).size + 2) = False := by have h_ := c21; (simp only [ByteArray.size_append] at h_); exact eq_false (Nat.not_lt.2 h_)
                        replace H := Option.bind_eq_some_iff.mp H
                        obtain ⟨t179, A220, H⟩ := H
                        replace H : (if ((((((rdOf ByteArray.empty y174 a2) ++ (⟨#[61, 48, 48]⟩ : ByteArray)) ++ t178) ++ (⟨#[44, 32, 120, 61, 49, 44, 32]⟩ : ByteArray)) ++ (rdOf ByteArray.empty y174 a2)) ++ (⟨#[61, 34]⟩ : ByteArray)).size + t179.size ≤ 9223372036854775807 then (if (((((((rdOf ByteArray.empty y174 a2) ++ (⟨#[61, 48, 48]⟩ : ByteArray)) ++ t178) ++ (⟨#[44, 32, 120, 61, 49, 44, 32]⟩ : ByteArray)) ++ (rdOf ByteArray.empty y174 a2)) ++ (⟨#[61, 34]⟩ : ByteArray)) ++ t179).size + 1 ≤ 9223372036854775807 then ((pantrylaw04_of.f kj5 ((((((((rdOf ByteArray.empty y174 a2) ++ (⟨#[61, 48, 48]⟩ : ByteArray)) ++ t178) ++ (⟨#[44, 32, 120, 61, 49, 44, 32]⟩ : ByteArray)) ++ (rdOf ByteArray.empty y174 a2)) ++ (⟨#[61, 34]⟩ : ByteArray)) ++ t179) ++ (⟨#[34]⟩ : ByteArray))).bind fun bt180 => ((some (([bt180.2.2.2.2.2.2.1, bt180.2.2.2.2.2.2.2.1, bt180.2.2.2.2.2.2.2.2.1, bt180.2.2.2.2.2.2.2.2.2] : List Int) : List Int)).bind fun y191 => (pantrylaw04_ControlSeconds.l0 kj5 a0 a1 a2 y191 (y191.length : Int) 0 bt180.1 bt180.2.1 bt180.2.2.1 bt180.2.2.2.1 bt180.2.2.2.2.1 bt180.2.2.2.2.2.1 bt180.2.2.2.2.2.2.1 bt180.2.2.2.2.2.2.2.1 bt180.2.2.2.2.2.2.2.2.1 bt180.2.2.2.2.2.2.2.2.2))) else (none)) else (none)) = some r := H
                        have A22 := Aside0.mk A220
                        clear A220
                        by_cases c23 : ((((((rdOf ByteArray.empty y174 a2) ++ (⟨#[61, 48, 48]⟩ : ByteArray)) ++ t178) ++ (⟨#[44, 32, 120, 61, 49, 44, 32]⟩ : ByteArray)) ++ (rdOf ByteArray.empty y174 a2)) ++ (⟨#[61, 34]⟩ : ByteArray)).size + t179.size ≤ 9223372036854775807
                        · rw [if_pos c23] at H
                          have c23b0 := eq_true c23
                          have c23b1 : decide (((((((rdOf ByteArray.empty y174 a2) ++ (⟨#[61, 48, 48]⟩ : ByteArray)) ++ t178) ++ (⟨#[44, 32, 120, 61, 49, 44, 32]⟩ : ByteArray)) ++ (rdOf ByteArray.empty y174 a2)) ++ (⟨#[61, 34]⟩ : ByteArray)).size + t179.size ≤ 9223372036854775807) = true := decide_eq_true c23
                          try have c23b2 : (9223372036854775807 < ((((((rdOf ByteArray.empty y174 a2) ++ (⟨#[61, 48, 48]⟩ : ByteArray)) ++ t178) ++ (⟨#[44, 32, 120, 61, 49, 44, 32]⟩ : ByteArray)) ++ (rdOf ByteArray.empty y174 a2)) ++ (⟨#[61, 34]⟩ : ByteArray)).size + t179.size) = False := eq_false (Nat.not_lt.2 c23)
                          try have c23b3 : (9223372036854775807 < (rdOf ByteArray.empty y174 a2).size + 3 + (t178).size + 7 + (rdOf ByteArray.empty y174 a2).size + 2 + t179.size) = False := by have h_ := c23; (simp only [ByteArray.size_append] at h_); exact eq_false (Nat.not_lt.2 h_)
                          by_cases c24 : (((((((rdOf ByteArray.empty y174 a2) ++ (⟨#[61, 48, 48]⟩ : ByteArray)) ++ t178) ++ (⟨#[44, 32, 120, 61, 49, 44, 32]⟩ : ByteArray)) ++ (rdOf ByteArray.empty y174 a2)) ++ (⟨#[61, 34]⟩ : ByteArray)) ++ t179).size + 1 ≤ 9223372036854775807
                          · rw [if_pos c24] at H
                            have c24b0 := eq_true c24
                            have c24b1 : decide ((((((((rdOf ByteArray.empty y174 a2) ++ (⟨#[61, 48, 48]⟩ : ByteArray)) ++ t178) ++ (⟨#[44, 32, 120, 61, 49, 44, 32]⟩ : ByteArray)) ++ (rdOf ByteArray.empty y174 a2)) ++ (⟨#[61, 34]⟩ : ByteArray)) ++ t179).size + 1 ≤ 9223372036854775807) = true := decide_eq_true c24
                            try have c24b2 : (9223372036854775807 < (((((((rdOf ByteArray.empty y174 a2) ++ (⟨#[61, 48, 48]⟩ : ByteArray)) ++ t178) ++ (⟨#[44, 32, 120, 61, 49, 44, 32]⟩ : ByteArray)) ++ (rdOf ByteArray.empty y174 a2)) ++ (⟨#[61, 34]⟩ : ByteArray)) ++ t179).size + 1) = False := eq_false (Nat.not_lt.2 c24)
                            try have c24b3 : (9223372036854775807 < (rdOf ByteArray.empty y174 a2).size + 3 + (t178).size + 7 + (rdOf ByteArray.empty y174 a2).size + 2 + (t179).size + 1) = False := by have h_ := c24; (simp only [ByteArray.size_append] at h_); exact eq_false (Nat.not_lt.2 h_)
                            replace H := Option.bind_eq_some_iff.mp H
                            obtain ⟨⟨t180, t181, t182, t183, t184, t185, t186, t187, t188, t189⟩, A250, H⟩ := H
                            replace H : ((some (([t186, t187, t188, t189] : List Int) : List Int)).bind fun y191 => (pantrylaw04_ControlSeconds.l0 kj5 a0 a1 a2 y191 (y191.length : Int) 0 t180 t181 t182 t183 t184 t185 t186 t187 t188 t189)) = some r := H
                            have A25 := Aside0.mk A250
                            clear A250
                            obtain ⟨y191, hy191⟩ : ∃ y_ : List Int, y_ = (([t186, t187, t188, t189] : List Int)) := ⟨_, rfl⟩
                            replace H : (pantrylaw04_ControlSeconds.l0 kj5 a0 a1 a2 y191 (y191.length : Int) 0 t180 t181 t182 t183 t184 t185 t186 t187 t188 t189) = some r := by first | (rw [hy191]; with_reducible exact H) | (have H2_ := (Option.bind_some _ _).symm.trans H; rw [hy191]; with_reducible exact H2_) | (have H2_ := (Option.bind_some _ _).symm.trans H; with_reducible exact H2_) | with_reducible exact H | (rw [hy191]; exact H) | exact H
                            have Ny191 := Aside0.mk hy191
                            clear hy191
                            have H' := Aside0.mk H
                            clear H
                            go_wp2_with (first | ((with_reducible refine gate_dst (N := 37) rfl ?_); refine Kd.R_lit Kd.string _ 9 ?hg (N := 37) ?hd (xs := ([(⟨#[109, 97, 120, 45, 97, 103, 101]⟩ : ByteArray), (⟨#[83, 45, 77, 97, 120, 65, 103, 101]⟩ : ByteArray), (⟨#[109, 105, 110, 45, 102, 114, 101, 115, 104]⟩ : ByteArray), (⟨#[109, 97, 120, 45, 115, 116, 97, 108, 101]⟩ : ByteArray)] : List ByteArray)) (inner := [.string (⟨#[109, 97, 120, 45, 97, 103, 101]⟩ : ByteArray), .string (⟨#[83, 45, 77, 97, 120, 65, 103, 101]⟩ : ByteArray), .string (⟨#[109, 105, 110, 45, 102, 114, 101, 115, 104]⟩ : ByteArray), .string (⟨#[109, 97, 120, 45, 115, 116, 97, 108, 101]⟩ : ByteArray)]) (ok := fun _ => True) (okp := fun _ => True) ?hr ?hp (fun _ hk => hk) trivial (Below.refl _ _) (Nat.le_refl _) (by simp) ?_; (case hd => rfl); (case hg => rfl); (case hr => first | (go_simp; done) | (go_simp; rfl)); (case hp => exact (Reps.one (show Kd.M Kd.string _ _ _ (⟨#[109, 97, 120, 45, 97, 103, 101]⟩ : ByteArray) [.string (⟨#[109, 97, 120, 45, 97, 103, 101]⟩ : ByteArray)] from rfl) (Reps.one (show Kd.M Kd.string _ _ _ (⟨#[83, 45, 77, 97, 120, 65, 103, 101]⟩ : ByteArray) [.string (⟨#[83, 45, 77, 97, 120, 65, 103, 101]⟩ : ByteArray)] from rfl) (Reps.one (show Kd.M Kd.string _ _ _ (⟨#[109, 105, 110, 45, 102, 114, 101, 115, 104]⟩ : ByteArray) [.string (⟨#[109, 105, 110, 45, 102, 114, 101, 115, 104]⟩ : ByteArray)] from rfl) (Reps.one (show Kd.M Kd.string _ _ _ (⟨#[109, 97, 120, 45, 115, 116, 97, 108, 101]⟩ : ByteArray) [.string (⟨#[109, 97, 120, 45, 115, 116, 97, 108, 101]⟩ : ByteArray)] from rfl) (Reps.none _ _)))))); intro v175 w26 ho27 hb hg_ hnew_; clear hg_ hnew_; (first | rw [← Ny174.out] at ho27 | (simp only [Int.reduceToNat] at ho27; rw [← Ny174.out] at ho27)); have n0_ := Aside0.mk (Kd.R_lower ho27 (below_size (by repeat (first | (with_reducible first | exact HB.out | apply below_alloc | apply pw_below_drewN | apply below_drew1) | exact HB.out)))); have n1_ := Aside0.mk (below_step (by repeat (first | (with_reducible first | exact HB.out | apply below_alloc | apply pw_below_drewN | apply below_drew1) | exact HB.out)) hb); clear HB; have HO176 := n0_; have HB := n1_; clear n0_ n1_; clear hb ho27; obtain ⟨Ao28, co28, eo28⟩ := Kd.R_slice HO176.out; subst eo28; have p177 : 0 ≤ (a2 : Int) := of_decide_eq_true (by first | (with_reducible assumption) | assumption); have q177 : a2 < (y174.length : Int) := of_decide_eq_true (by first | (with_reducible assumption) | assumption); obtain ⟨ad177, e177, hx177_0⟩ := Kd.at_string (Kd.R_reads' HO176.out).2.2 a2 p177 q177; cases e177; replace p177 := eq_true p177; replace q177 := eq_true q177) | ((with_reducible refine gate_callee (f := 16) rfl ?_); refine goesL_ (some 44) rfl rfl Tryd.func16 (by kernel_rfl) rfl #[.int .i64 a0] rfl (by (try simp only [List.map_toArray, List.map_cons, List.map_nil]); first | done | rfl | (simp only [List.length_drop, List.length_take]; rfl)) ?_; (with_reducible refine (pantrylaw04_digits.calls kj5 a0 t178 _ A17.out).mono ?_); rintro e w29 ⟨rfl, hb⟩; refine ⟨_, rfl, ?_⟩; have n0_ := Aside0.mk (Kd.R_below (by (with_reducible repeat (first | apply Kd.R_alloc | apply Kd.R_drewN | apply Kd.R_drew)); exact HO176.out) hb); have n1_ := Aside0.mk (below_step (by repeat (first | (with_reducible first | exact HB.out | apply below_alloc | apply pw_below_drewN | apply below_drew1) | exact HB.out)) hb); clear HO176; clear HB; have HO176 := n0_; have HB := n1_; clear n0_ n1_; (try clear hb); (try clear hb2); (try clear hk); (try clear hi)) | ((with_reducible refine gate_callee (f := 16) rfl ?_); refine goesL_ (some 51) rfl rfl Tryd.func16 (by kernel_rfl) rfl #[.int .i64 a1] rfl (by (try simp only [List.map_toArray, List.map_cons, List.map_nil]); first | done | rfl | (simp only [List.length_drop, List.length_take]; rfl)) ?_; (with_reducible refine (pantrylaw04_digits.calls kj5 a1 t179 _ A22.out).mono ?_); rintro e w30 ⟨rfl, hb⟩; refine ⟨_, rfl, ?_⟩; have n0_ := Aside0.mk (Kd.R_below (by (with_reducible repeat (first | apply Kd.R_alloc | apply Kd.R_drewN | apply Kd.R_drew)); exact HO176.out) hb); have n1_ := Aside0.mk (below_step (by repeat (first | (with_reducible first | exact HB.out | apply below_alloc | apply pw_below_drewN | apply below_drew1) | exact HB.out)) hb); clear HO176; clear HB; have HO176 := n0_; have HB := n1_; clear n0_ n1_; (try clear hb); (try clear hb2); (try clear hk); (try clear hi)) | ((with_reducible refine gate_callee (f := 15) rfl ?_); refine goesL_ (some 54) rfl rfl Tryd.func15 (by kernel_rfl) rfl #[.string ((((((((rdOf ByteArray.empty y174 a2) ++ (⟨#[61, 48, 48]⟩ : ByteArray)) ++ t178) ++ (⟨#[44, 32, 120, 61, 49, 44, 32]⟩ : ByteArray)) ++ (rdOf ByteArray.empty y174 a2)) ++ (⟨#[61, 34]⟩ : ByteArray)) ++ t179) ++ (⟨#[34]⟩ : ByteArray))] rfl (by (try simp only [List.map_toArray, List.map_cons, List.map_nil]); first | done | rfl | (simp only [List.length_drop, List.length_take]; rfl)) ?_; (with_reducible refine (pantrylaw04_of.calls kj5 ((((((((rdOf ByteArray.empty y174 a2) ++ (⟨#[61, 48, 48]⟩ : ByteArray)) ++ t178) ++ (⟨#[44, 32, 120, 61, 49, 44, 32]⟩ : ByteArray)) ++ (rdOf ByteArray.empty y174 a2)) ++ (⟨#[61, 34]⟩ : ByteArray)) ++ t179) ++ (⟨#[34]⟩ : ByteArray)) t180 t181 t182 t183 t184 t185 t186 t187 t188 t189 _ A25.out).mono ?_); rintro e w31 ⟨rfl, hb⟩; refine ⟨_, rfl, ?_⟩; have n0_ := Aside0.mk (Kd.R_below (by (with_reducible repeat (first | apply Kd.R_alloc | apply Kd.R_drewN | apply Kd.R_drew)); exact HO176.out) hb); have n1_ := Aside0.mk (below_step (by repeat (first | (with_reducible first | exact HB.out | apply below_alloc | apply pw_below_drewN | apply below_drew1) | exact HB.out)) hb); clear HO176; clear HB; have HO176 := n0_; have HB := n1_; clear n0_ n1_; (try clear hb); (try clear hb2); (try clear hk); (try clear hi)) | ((with_reducible refine gate_dst (N := 8) rfl ?_); refine box_event ?hg (N := 8) ?hd (cs := #[.bool false, .bool false, .bool false, .bool false, .bool false, .bool false, .int .i64 0, .int .i64 0, .int .i64 0, .int .i64 0]) (t := 29) ?hr ?_; (case hd => rfl); (case hg => rfl); (case hr => first | (go_simp; done) | (go_simp; rfl)); intro gb190 hg w32 hbox hb; have n0_ := Aside0.mk (Kd.R_below (by (with_reducible repeat (first | apply Kd.R_alloc | apply Kd.R_drewN | apply Kd.R_drew)); exact HO176.out) hb); have n1_ := Aside0.mk (below_step (by repeat (first | (with_reducible first | exact HB.out | apply below_alloc | apply pw_below_drewN | apply below_drew1) | exact HB.out)) hb); have n2_ := Aside0.mk (hbox); have n3_ := Aside0.mk ((by rw [hg]; exact (below_size (by repeat (first | (with_reducible first | exact HB.out | apply below_alloc | apply pw_below_drewN | apply below_drew1) | exact HB.out))) : w.heap.size ≤ gb190)); have n4_ := Aside0.mk ((by rw [hg]; exact (below_size (by repeat (first | (with_reducible first | exact HB.out | apply below_alloc | apply pw_below_drewN | apply below_drew1) | exact HB.out))) : w.heap.size ≤ gb190)); clear HO176; clear HB; have HO176 := n0_; have HB := n1_; have BK190 := n2_; have GW190 := n3_; have GE190 := n4_; clear n0_ n1_ n2_ n3_ n4_; clear hb hbox hg; have hcz33_0 : w32.cell? ⟨gb190, 0, none⟩ = some (.bool false) := (blk_cell BK190.out 0).trans rfl; have hcz33_1 : w32.cell? ⟨gb190, 1, none⟩ = some (.bool false) := (blk_cell BK190.out 1).trans rfl; have hcz33_2 : w32.cell? ⟨gb190, 2, none⟩ = some (.bool false) := (blk_cell BK190.out 2).trans rfl; have hcz33_3 : w32.cell? ⟨gb190, 3, none⟩ = some (.bool false) := (blk_cell BK190.out 3).trans rfl; have hcz33_4 : w32.cell? ⟨gb190, 4, none⟩ = some (.bool false) := (blk_cell BK190.out 4).trans rfl; have hcz33_5 : w32.cell? ⟨gb190, 5, none⟩ = some (.bool false) := (blk_cell BK190.out 5).trans rfl; have hcz33_6 : w32.cell? ⟨gb190, 6, none⟩ = some (.int .i64 0) := (blk_cell BK190.out 6).trans rfl; have hcz33_7 : w32.cell? ⟨gb190, 7, none⟩ = some (.int .i64 0) := (blk_cell BK190.out 7).trans rfl; have hcz33_8 : w32.cell? ⟨gb190, 8, none⟩ = some (.int .i64 0) := (blk_cell BK190.out 8).trans rfl; have hcz33_9 : w32.cell? ⟨gb190, 9, none⟩ = some (.int .i64 0) := (blk_cell BK190.out 9).trans rfl; have hfz33_0 := blk_frozen BK190.out 0; have hfz33_1 := blk_frozen BK190.out 1; have hfz33_2 := blk_frozen BK190.out 2; have hfz33_3 := blk_frozen BK190.out 3; have hfz33_4 := blk_frozen BK190.out 4; have hfz33_5 := blk_frozen BK190.out 5; have hfz33_6 := blk_frozen BK190.out 6; have hfz33_7 := blk_frozen BK190.out 7; have hfz33_8 := blk_frozen BK190.out 8; have hfz33_9 := blk_frozen BK190.out 9) | ((with_reducible refine gate_dst (N := 63) rfl ?_); refine Kd.R_lit (Kd.int .i64) _ 3 ?hg (N := 63) ?hd (xs := ([t186, t187, t188, t189] : List Int)) (inner := [.int .i64 t186, .int .i64 t187, .int .i64 t188, .int .i64 t189]) (ok := fun _ => True) (okp := fun _ => True) ?hr ?hp (fun _ hk => hk) trivial (Below.refl _ _) (Nat.le_refl _) (by simp) ?_; (case hd => rfl); (case hg => rfl); (case hr => first | (go_simp; done) | (go_simp; rfl)); (case hp => exact (Reps.one (show Kd.M (Kd.int .i64) _ _ _ t186 [.int .i64 t186] from rfl) (Reps.one (show Kd.M (Kd.int .i64) _ _ _ t187 [.int .i64 t187] from rfl) (Reps.one (show Kd.M (Kd.int .i64) _ _ _ t188 [.int .i64 t188] from rfl) (Reps.one (show Kd.M (Kd.int .i64) _ _ _ t189 [.int .i64 t189] from rfl) (Reps.none _ _)))))); intro v192 w34 ho35 hb hg_ hnew_; clear hg_ hnew_; (first | rw [← Ny191.out] at ho35 | (simp only [Int.reduceToNat] at ho35; rw [← Ny191.out] at ho35)); have n0_ := Aside0.mk (Kd.R_below (by (with_reducible repeat (first | apply Kd.R_alloc | apply Kd.R_drewN | apply Kd.R_drew)); exact (Kd.R_mono (Kd.R_far (p := ⟨gb190, 9, none⟩) (Kd.R_far (p := ⟨gb190, 8, none⟩) (Kd.R_far (p := ⟨gb190, 7, none⟩) (Kd.R_far (p := ⟨gb190, 6, none⟩) (Kd.R_far (p := ⟨gb190, 5, none⟩) (Kd.R_far (p := ⟨gb190, 4, none⟩) (Kd.R_far (p := ⟨gb190, 3, none⟩) (Kd.R_far (p := ⟨gb190, 2, none⟩) (Kd.R_far (p := ⟨gb190, 1, none⟩) (Kd.R_far (p := ⟨gb190, 0, none⟩) (Kd.R_types HO176.out BK190.out (by decide)) (fun _ hk => hk.2) (.bool t180)) (fun _ hk => hk.2) (.bool t181)) (fun _ hk => hk.2) (.bool t182)) (fun _ hk => hk.2) (.bool t183)) (fun _ hk => hk.2) (.bool t184)) (fun _ hk => hk.2) (.bool t185)) (fun _ hk => hk.2) (.int .i64 t186)) (fun _ hk => hk.2) (.int .i64 t187)) (fun _ hk => hk.2) (.int .i64 t188)) (fun _ hk => hk.2) (.int .i64 t189)) (fun _ h_ => h_.1))) hb); have n1_ := Aside0.mk (Kd.R_lower ho35 (below_size (by repeat (first | (with_reducible first | exact HB.out | apply below_alloc | apply pw_below_drewN | apply below_drew1 | refine below_set ?_ GE190.out) | exact HB.out)))); have n2_ := Aside0.mk (blk_below (g := gb190) (o := .cells #[.bool t180, .bool t181, .bool t182, .bool t183, .bool t184, .bool t185, .int .i64 t186, .int .i64 t187, .int .i64 t188, .int .i64 t189] 29 (0, 0)) (by (with_reducible repeat (first | refine blk_drewN ?_ _ | refine blk_drew ?_ | refine blk_alloc ?_ _)); refine blk_put (cs := #[.bool t180, .bool t181, .bool t182, .bool t183, .bool t184, .bool t185, .int .i64 t186, .int .i64 t187, .int .i64 t188, .int .i64 0]) ?_ 9 _ rfl; (with_reducible repeat (first | refine blk_drewN ?_ _ | refine blk_drew ?_ | refine blk_alloc ?_ _)); refine blk_put (cs := #[.bool t180, .bool t181, .bool t182, .bool t183, .bool t184, .bool t185, .int .i64 t186, .int .i64 t187, .int .i64 0, .int .i64 0]) ?_ 8 _ rfl; (with_reducible repeat (first | refine blk_drewN ?_ _ | refine blk_drew ?_ | refine blk_alloc ?_ _)); refine blk_put (cs := #[.bool t180, .bool t181, .bool t182, .bool t183, .bool t184, .bool t185, .int .i64 t186, .int .i64 0, .int .i64 0, .int .i64 0]) ?_ 7 _ rfl; (with_reducible repeat (first | refine blk_drewN ?_ _ | refine blk_drew ?_ | refine blk_alloc ?_ _)); refine blk_put (cs := #[.bool t180, .bool t181, .bool t182, .bool t183, .bool t184, .bool t185, .int .i64 0, .int .i64 0, .int .i64 0, .int .i64 0]) ?_ 6 _ rfl; (with_reducible repeat (first | refine blk_drewN ?_ _ | refine blk_drew ?_ | refine blk_alloc ?_ _)); refine blk_put (cs := #[.bool t180, .bool t181, .bool t182, .bool t183, .bool t184, .bool false, .int .i64 0, .int .i64 0, .int .i64 0, .int .i64 0]) ?_ 5 _ rfl; (with_reducible repeat (first | refine blk_drewN ?_ _ | refine blk_drew ?_ | refine blk_alloc ?_ _)); refine blk_put (cs := #[.bool t180, .bool t181, .bool t182, .bool t183, .bool false, .bool false, .int .i64 0, .int .i64 0, .int .i64 0, .int .i64 0]) ?_ 4 _ rfl; (with_reducible repeat (first | refine blk_drewN ?_ _ | refine blk_drew ?_ | refine blk_alloc ?_ _)); refine blk_put (cs := #[.bool t180, .bool t181, .bool t182, .bool false, .bool false, .bool false, .int .i64 0, .int .i64 0, .int .i64 0, .int .i64 0]) ?_ 3 _ rfl; (with_reducible repeat (first | refine blk_drewN ?_ _ | refine blk_drew ?_ | refine blk_alloc ?_ _)); refine blk_put (cs := #[.bool t180, .bool t181, .bool false, .bool false, .bool false, .bool false, .int .i64 0, .int .i64 0, .int .i64 0, .int .i64 0]) ?_ 2 _ rfl; (with_reducible repeat (first | refine blk_drewN ?_ _ | refine blk_drew ?_ | refine blk_alloc ?_ _)); refine blk_put (cs := #[.bool t180, .bool false, .bool false, .bool false, .bool false, .bool false, .int .i64 0, .int .i64 0, .int .i64 0, .int .i64 0]) ?_ 1 _ rfl; (with_reducible repeat (first | refine blk_drewN ?_ _ | refine blk_drew ?_ | refine blk_alloc ?_ _)); refine blk_put (cs := #[.bool false, .bool false, .bool false, .bool false, .bool false, .bool false, .int .i64 0, .int .i64 0, .int .i64 0, .int .i64 0]) ?_ 0 _ rfl; (with_reducible repeat (first | refine blk_drewN ?_ _ | refine blk_drew ?_ | refine blk_alloc ?_ _)); exact BK190.out) hb); have n3_ := Aside0.mk (below_step (by repeat (first | (with_reducible first | exact HB.out | apply below_alloc | apply pw_below_drewN | apply below_drew1 | refine below_set ?_ GE190.out) | exact HB.out)) hb); clear HO176; clear BK190; clear HB; have HO176 := n0_; have HO193 := n1_; have BK190 := n2_; have HB := n3_; clear n0_ n1_ n2_ n3_; clear hb ho35; obtain ⟨Ao36, co36, eo36⟩ := Kd.R_slice HO193.out; subst eo36))
                            go_loopg [66] kj5 (fun kq v66 w' => ∃ (x66_2 : Int), v66 = .int .i64 x66_2 ∧ Aside0 (pantrylaw04_ControlSeconds.l0 kq a0 a1 a2 y191 (y191.length : Int) x66_2 t180 t181 t182 t183 t184 t185 t186 t187 t188 t189 = some r) ∧ Aside0 (kq ≤ kj5) ∧ Aside0 (Kd.R (Kd.int .i64) 3 w' w.heap.size (fun _ => True) (.slice Ao36 y191.length co36) y191) ∧ Aside0 (w'.heap[gb190]? = some (.cells #[.bool t180, .bool t181, .bool t182, .bool t183, .bool t184, .bool t185, .int .i64 t186, .int .i64 t187, .int .i64 t188, .int .i64 t189] 29 (0, 0))) ∧ Aside0 (Below w.heap.size w w'))
                            case atStart => exact ⟨(0), (by first | rfl | (simp; done) | (simp [*]; done)), H', ⟨Nat.le_refl _⟩, ⟨by (with_reducible repeat (first | apply Kd.R_alloc | apply Kd.R_drewN | apply Kd.R_drew)); exact HO193.out⟩, ⟨by (with_reducible repeat (first | refine blk_drewN ?_ _ | refine blk_drew ?_ | refine blk_alloc ?_ _)); exact BK190.out⟩, ⟨by repeat (first | (with_reducible first | exact HB.out | apply below_alloc | apply pw_below_drewN | apply below_drew1 | refine below_set ?_ GE190.out) | exact HB.out)⟩⟩
                            case round =>
                              clear H'
                              try clear c1
                              try clear p1
                              try clear q1
                              try clear hx1
                              try clear c2
                              try clear p2
                              try clear c4
                              try clear c5
                              try clear c8
                              try clear c8b0
                              try clear c9
                              try clear c9b0
                              try clear c10
                              try clear c10b0
                              try clear c11
                              try clear c11b0
                              try clear c12
                              try clear c12b0
                              try clear c13
                              try clear c14
                              try clear c14b0
                              try clear c15
                              try clear c15b0
                              try clear c16
                              try clear c16b0
                              try clear c16b1
                              try clear c16b2
                              try clear p17
                              try clear q17
                              try clear hx17
                              try clear c18
                              try clear c18b0
                              try clear c18b1
                              try clear c18b2
                              try clear c19
                              try clear c19b0
                              try clear c19b1
                              try clear c19b2
                              try clear c20
                              try clear c20b0
                              try clear c20b1
                              try clear c20b2
                              try clear c21
                              try clear c21b0
                              try clear c21b1
                              try clear c21b2
                              try clear c23
                              try clear c23b0
                              try clear c23b1
                              try clear c23b2
                              try clear c24
                              try clear c24b0
                              try clear c24b1
                              try clear c24b2
                              try clear hcz33_0
                              try clear hcz33_1
                              try clear hcz33_2
                              try clear hcz33_3
                              try clear hcz33_4
                              try clear hcz33_5
                              try clear hcz33_6
                              try clear hcz33_7
                              try clear hcz33_8
                              try clear hcz33_9
                              try clear hfz33_0
                              try clear hfz33_1
                              try clear hfz33_2
                              try clear hfz33_3
                              try clear hfz33_4
                              try clear hfz33_5
                              try clear hfz33_6
                              try clear hfz33_7
                              try clear hfz33_8
                              try clear hfz33_9
                              try clear hx177_0
                              try clear p177
                              try clear p2
                              try clear q177
                              obtain ⟨x66_2, rfl, HA, HK2, HO_64, BK190, HB⟩ := hrel
                              cases gk with
                              | zero => exact absurd HA.out (by simp [pantrylaw04_ControlSeconds.l0])
                              | succ k2 =>
                                have H := HA.out
                                clear HA
                                simp only [pantrylaw04_ControlSeconds.l0] at H
                                by_cases c37 : x66_2 < (y191.length : Int)
                                · rw [if_pos c37] at H
                                  have c37b0 : decide (x66_2 < (y191.length : Int)) = true := decide_eq_true c37
                                  clear c37
                                  by_cases c38 : 0 ≤ x66_2
                                  · rw [if_pos c38] at H
                                    have c38b0 : decide (0 ≤ x66_2) = true := decide_eq_true c38
                                    clear c38
                                    by_cases c39 : x66_2 < (y191.length : Int)
                                    · rw [if_pos c39] at H
                                      have c39b0 : decide (x66_2 < (y191.length : Int)) = true := decide_eq_true c39
                                      clear c39
                                      by_cases c40 : x66_2 = a2
                                      · rw [if_pos c40] at H
                                        have c40b0 : (x66_2 == a2) = true := beq_iff_eq.mpr c40
                                        have c40b1 : (x66_2 != a2) = false := bne_eq_false_iff_eq.mpr c40
                                        clear c40
                                        obtain ⟨ji41, hji41⟩ : ∃ j_ : Int, (mn a0 a1) = j_ := ⟨_, rfl⟩
                                        replace H : (if a2 = 2 then (if (rd y191 x66_2) = (mx a0 a1) then (pantrylaw04_ControlSeconds.l0 k2 a0 a1 a2 y191 (y191.length : Int) (wrap64 (x66_2 + 1)) t180 t181 t182 t183 t184 t185 t186 t187 t188 t189) else (some false)) else (if (rd y191 x66_2) = (ji41) then (pantrylaw04_ControlSeconds.l0 k2 a0 a1 a2 y191 (y191.length : Int) (wrap64 (x66_2 + 1)) t180 t181 t182 t183 t184 t185 t186 t187 t188 t189) else (some false))) = some r := by first | (rw [hji41] at H; exact H) | (simp only [hji41] at H ⊢; exact H)
                                        have hji41_ : (if a1 < a0 then a1 else a0) = ji41 := hji41
                                        by_cases c42 : a2 = 2
                                        · rw [if_pos c42] at H
                                          have c42b0 : (a2 == 2) = true := beq_iff_eq.mpr c42
                                          have c42b1 : (a2 != 2) = false := bne_eq_false_iff_eq.mpr c42
                                          clear c42
                                          obtain ⟨ji43, hji43⟩ : ∃ j_ : Int, (mx a0 a1) = j_ := ⟨_, rfl⟩
                                          replace H : (if (rd y191 x66_2) = (ji43) then (pantrylaw04_ControlSeconds.l0 k2 a0 a1 a2 y191 (y191.length : Int) (wrap64 (x66_2 + 1)) t180 t181 t182 t183 t184 t185 t186 t187 t188 t189) else (some false)) = some r := by first | (rw [hji43] at H; exact H) | (simp only [hji43] at H ⊢; exact H)
                                          have hji43_ : (if a0 < a1 then a1 else a0) = ji43 := hji43
                                          by_cases c44 : (rd y191 x66_2) = (ji43)
                                          · rw [if_pos c44] at H
                                            have c44b0 : ((rd y191 x66_2) == (ji43)) = true := beq_iff_eq.mpr c44
                                            have c44b1 : ((rd y191 x66_2) != (ji43)) = false := bne_eq_false_iff_eq.mpr c44
                                            clear c44
                                            have H' := Aside0.mk H
                                            clear H
                                            have p194 : 0 ≤ (x66_2 : Int) := of_decide_eq_true (by first | (with_reducible assumption) | assumption)
                                            have q194 : x66_2 < (y191.length : Int) := of_decide_eq_true (by first | (with_reducible assumption) | assumption)
                                            obtain ⟨ad194, e194, hx194_0⟩ := Kd.at_int (Kd.R_reads' HO_64.out).2.2 x66_2 p194 q194
                                            cases e194
                                            replace p194 := eq_true p194
                                            replace q194 := eq_true q194
                                            go_wp2
                                            go_roundg k2
                                            case measure => have := HJ5.out; have := HK2.out; omega
                                            case rel => exact ⟨(wrap64 (x66_2 + 1)), (by first | rfl | (simp; done) | (simp [*]; done)), H', ⟨by have := HJ5.out; have := HK2.out; omega⟩, ⟨by (with_reducible repeat (first | apply Kd.R_alloc | apply Kd.R_drewN | apply Kd.R_drew)); exact HO_64.out⟩, ⟨by (with_reducible repeat (first | refine blk_drewN ?_ _ | refine blk_drew ?_ | refine blk_alloc ?_ _)); exact BK190.out⟩, ⟨by repeat (first | (with_reducible first | exact HB.out | apply below_alloc | apply pw_below_drewN | apply below_drew1 | refine below_set ?_ GE190.out) | exact HB.out)⟩⟩
                                          · rw [if_neg c44] at H
                                            have c44b0 : ((rd y191 x66_2) == (ji43)) = false := beq_eq_false_iff_ne.mpr c44
                                            have c44b1 : ((rd y191 x66_2) != (ji43)) = true := bne_iff_ne.mpr c44
                                            obtain rfl := Option.some.inj H
                                            have p194 : 0 ≤ (x66_2 : Int) := of_decide_eq_true (by first | (with_reducible assumption) | assumption)
                                            have q194 : x66_2 < (y191.length : Int) := of_decide_eq_true (by first | (with_reducible assumption) | assumption)
                                            obtain ⟨ad194, e194, hx194_0⟩ := Kd.at_int (Kd.R_reads' HO_64.out).2.2 x66_2 p194 q194
                                            cases e194
                                            replace p194 := eq_true p194
                                            replace q194 := eq_true q194
                                            go_wp2
                                            go_ret
                                            exact ⟨by first | rfl | (generalize ByteArray.toList _ = l_; cases l_ <;> rfl) | (simp [errW_none, errW_some] <;> rfl) | (simp only [← hji41, ← hji43]; first | rfl | (simp [errW_none, errW_some] <;> rfl)) | (simp [*, errW_none, errW_some] <;> rfl), by repeat (first | (with_reducible first | exact HB.out | apply below_alloc | apply pw_below_drewN | apply below_drew1 | refine below_set ?_ GE190.out) | exact HB.out)⟩
                                        · rw [if_neg c42] at H
                                          have c42b0 : (a2 == 2) = false := beq_eq_false_iff_ne.mpr c42
                                          have c42b1 : (a2 != 2) = true := bne_iff_ne.mpr c42
                                          by_cases c45 : (rd y191 x66_2) = (ji41)
                                          · rw [if_pos c45] at H
                                            have c45b0 : ((rd y191 x66_2) == (ji41)) = true := beq_iff_eq.mpr c45
                                            have c45b1 : ((rd y191 x66_2) != (ji41)) = false := bne_eq_false_iff_eq.mpr c45
                                            clear c45
                                            have H' := Aside0.mk H
                                            clear H
                                            have p194 : 0 ≤ (x66_2 : Int) := of_decide_eq_true (by first | (with_reducible assumption) | assumption)
                                            have q194 : x66_2 < (y191.length : Int) := of_decide_eq_true (by first | (with_reducible assumption) | assumption)
                                            obtain ⟨ad194, e194, hx194_0⟩ := Kd.at_int (Kd.R_reads' HO_64.out).2.2 x66_2 p194 q194
                                            cases e194
                                            replace p194 := eq_true p194
                                            replace q194 := eq_true q194
                                            go_wp2
                                            go_roundg k2
                                            case measure => have := HJ5.out; have := HK2.out; omega
                                            case rel => exact ⟨(wrap64 (x66_2 + 1)), (by first | rfl | (simp; done) | (simp [*]; done)), H', ⟨by have := HJ5.out; have := HK2.out; omega⟩, ⟨by (with_reducible repeat (first | apply Kd.R_alloc | apply Kd.R_drewN | apply Kd.R_drew)); exact HO_64.out⟩, ⟨by (with_reducible repeat (first | refine blk_drewN ?_ _ | refine blk_drew ?_ | refine blk_alloc ?_ _)); exact BK190.out⟩, ⟨by repeat (first | (with_reducible first | exact HB.out | apply below_alloc | apply pw_below_drewN | apply below_drew1 | refine below_set ?_ GE190.out) | exact HB.out)⟩⟩
                                          · rw [if_neg c45] at H
                                            have c45b0 : ((rd y191 x66_2) == (ji41)) = false := beq_eq_false_iff_ne.mpr c45
                                            have c45b1 : ((rd y191 x66_2) != (ji41)) = true := bne_iff_ne.mpr c45
                                            obtain rfl := Option.some.inj H
                                            have p194 : 0 ≤ (x66_2 : Int) := of_decide_eq_true (by first | (with_reducible assumption) | assumption)
                                            have q194 : x66_2 < (y191.length : Int) := of_decide_eq_true (by first | (with_reducible assumption) | assumption)
                                            obtain ⟨ad194, e194, hx194_0⟩ := Kd.at_int (Kd.R_reads' HO_64.out).2.2 x66_2 p194 q194
                                            cases e194
                                            replace p194 := eq_true p194
                                            replace q194 := eq_true q194
                                            go_wp2
                                            go_ret
                                            exact ⟨by first | rfl | (generalize ByteArray.toList _ = l_; cases l_ <;> rfl) | (simp [errW_none, errW_some] <;> rfl) | (simp only [← hji41]; first | rfl | (simp [errW_none, errW_some] <;> rfl)) | (simp [*, errW_none, errW_some] <;> rfl), by repeat (first | (with_reducible first | exact HB.out | apply below_alloc | apply pw_below_drewN | apply below_drew1 | refine below_set ?_ GE190.out) | exact HB.out)⟩
                                      · rw [if_neg c40] at H
                                        have c40b0 : (x66_2 == a2) = false := beq_eq_false_iff_ne.mpr c40
                                        have c40b1 : (x66_2 != a2) = true := bne_iff_ne.mpr c40
                                        by_cases c46 : (rd y191 x66_2) = (-1)
                                        · rw [if_pos c46] at H
                                          have c46b0 : ((rd y191 x66_2) == (-1)) = true := beq_iff_eq.mpr c46
                                          have c46b1 : ((rd y191 x66_2) != (-1)) = false := bne_eq_false_iff_eq.mpr c46
                                          clear c46
                                          have H' := Aside0.mk H
                                          clear H
                                          have p194 : 0 ≤ (x66_2 : Int) := of_decide_eq_true (by first | (with_reducible assumption) | assumption)
                                          have q194 : x66_2 < (y191.length : Int) := of_decide_eq_true (by first | (with_reducible assumption) | assumption)
                                          obtain ⟨ad194, e194, hx194_0⟩ := Kd.at_int (Kd.R_reads' HO_64.out).2.2 x66_2 p194 q194
                                          cases e194
                                          replace p194 := eq_true p194
                                          replace q194 := eq_true q194
                                          go_wp2
                                          go_roundg k2
                                          case measure => have := HJ5.out; have := HK2.out; omega
                                          case rel => exact ⟨(wrap64 (x66_2 + 1)), (by first | rfl | (simp; done) | (simp [*]; done)), H', ⟨by have := HJ5.out; have := HK2.out; omega⟩, ⟨by (with_reducible repeat (first | apply Kd.R_alloc | apply Kd.R_drewN | apply Kd.R_drew)); exact HO_64.out⟩, ⟨by (with_reducible repeat (first | refine blk_drewN ?_ _ | refine blk_drew ?_ | refine blk_alloc ?_ _)); exact BK190.out⟩, ⟨by repeat (first | (with_reducible first | exact HB.out | apply below_alloc | apply pw_below_drewN | apply below_drew1 | refine below_set ?_ GE190.out) | exact HB.out)⟩⟩
                                        · rw [if_neg c46] at H
                                          have c46b0 : ((rd y191 x66_2) == (-1)) = false := beq_eq_false_iff_ne.mpr c46
                                          have c46b1 : ((rd y191 x66_2) != (-1)) = true := bne_iff_ne.mpr c46
                                          obtain rfl := Option.some.inj H
                                          have p194 : 0 ≤ (x66_2 : Int) := of_decide_eq_true (by first | (with_reducible assumption) | assumption)
                                          have q194 : x66_2 < (y191.length : Int) := of_decide_eq_true (by first | (with_reducible assumption) | assumption)
                                          obtain ⟨ad194, e194, hx194_0⟩ := Kd.at_int (Kd.R_reads' HO_64.out).2.2 x66_2 p194 q194
                                          cases e194
                                          replace p194 := eq_true p194
                                          replace q194 := eq_true q194
                                          go_wp2
                                          go_ret
                                          exact ⟨by first | rfl | (generalize ByteArray.toList _ = l_; cases l_ <;> rfl) | (simp [errW_none, errW_some] <;> rfl) | (simp [*, errW_none, errW_some] <;> rfl), by repeat (first | (with_reducible first | exact HB.out | apply below_alloc | apply pw_below_drewN | apply below_drew1 | refine below_set ?_ GE190.out) | exact HB.out)⟩
                                    · rw [if_neg c39] at H
                                      exact absurd H (by simp)
                                  · rw [if_neg c38] at H
                                    exact absurd H (by simp)
                                · rw [if_neg c37] at H
                                  have c37b0 : decide (x66_2 < (y191.length : Int)) = false := decide_eq_false c37
                                  clear c37
                                  by_cases c47 : t180 = true
                                  · subst c47
                                    have H1 : (some false) = some r := by rw [if_pos rfl] at H; exact H
                                    clear H
                                    have H := H1
                                    clear H1
                                    obtain rfl := Option.some.inj H
                                    have hcz48_0 : wr.cell? ⟨gb190, 0, none⟩ = some (.bool true) := (blk_cell BK190.out 0).trans rfl
                                    have hcz48_1 : wr.cell? ⟨gb190, 1, none⟩ = some (.bool t181) := (blk_cell BK190.out 1).trans rfl
                                    have hcz48_2 : wr.cell? ⟨gb190, 2, none⟩ = some (.bool t182) := (blk_cell BK190.out 2).trans rfl
                                    have hcz48_3 : wr.cell? ⟨gb190, 3, none⟩ = some (.bool t183) := (blk_cell BK190.out 3).trans rfl
                                    have hcz48_4 : wr.cell? ⟨gb190, 4, none⟩ = some (.bool t184) := (blk_cell BK190.out 4).trans rfl
                                    have hcz48_5 : wr.cell? ⟨gb190, 5, none⟩ = some (.bool t185) := (blk_cell BK190.out 5).trans rfl
                                    have hcz48_6 : wr.cell? ⟨gb190, 6, none⟩ = some (.int .i64 t186) := (blk_cell BK190.out 6).trans rfl
                                    have hcz48_7 : wr.cell? ⟨gb190, 7, none⟩ = some (.int .i64 t187) := (blk_cell BK190.out 7).trans rfl
                                    have hcz48_8 : wr.cell? ⟨gb190, 8, none⟩ = some (.int .i64 t188) := (blk_cell BK190.out 8).trans rfl
                                    have hcz48_9 : wr.cell? ⟨gb190, 9, none⟩ = some (.int .i64 t189) := (blk_cell BK190.out 9).trans rfl
                                    have hfz48_0 := blk_frozen BK190.out 0
                                    have hfz48_1 := blk_frozen BK190.out 1
                                    have hfz48_2 := blk_frozen BK190.out 2
                                    have hfz48_3 := blk_frozen BK190.out 3
                                    have hfz48_4 := blk_frozen BK190.out 4
                                    have hfz48_5 := blk_frozen BK190.out 5
                                    have hfz48_6 := blk_frozen BK190.out 6
                                    have hfz48_7 := blk_frozen BK190.out 7
                                    have hfz48_8 := blk_frozen BK190.out 8
                                    have hfz48_9 := blk_frozen BK190.out 9
                                    go_wp2
                                    go_ret
                                    exact ⟨by first | rfl | (generalize ByteArray.toList _ = l_; cases l_ <;> rfl) | (simp [errW_none, errW_some] <;> rfl) | (simp [*, errW_none, errW_some] <;> rfl), by repeat (first | (with_reducible first | exact HB.out | apply below_alloc | apply pw_below_drewN | apply below_drew1 | refine below_set ?_ GE190.out) | exact HB.out)⟩
                                  · replace c47 := Bool.eq_false_iff.mpr c47
                                    subst c47
                                    have H1 : (some (!t184)) = some r := by rw [if_neg (show ¬ (false = true) by decide)] at H; exact H
                                    clear H
                                    have H := H1
                                    clear H1
                                    obtain rfl := Option.some.inj H
                                    have hcz49_0 : wr.cell? ⟨gb190, 0, none⟩ = some (.bool false) := (blk_cell BK190.out 0).trans rfl
                                    have hcz49_1 : wr.cell? ⟨gb190, 1, none⟩ = some (.bool t181) := (blk_cell BK190.out 1).trans rfl
                                    have hcz49_2 : wr.cell? ⟨gb190, 2, none⟩ = some (.bool t182) := (blk_cell BK190.out 2).trans rfl
                                    have hcz49_3 : wr.cell? ⟨gb190, 3, none⟩ = some (.bool t183) := (blk_cell BK190.out 3).trans rfl
                                    have hcz49_4 : wr.cell? ⟨gb190, 4, none⟩ = some (.bool t184) := (blk_cell BK190.out 4).trans rfl
                                    have hcz49_5 : wr.cell? ⟨gb190, 5, none⟩ = some (.bool t185) := (blk_cell BK190.out 5).trans rfl
                                    have hcz49_6 : wr.cell? ⟨gb190, 6, none⟩ = some (.int .i64 t186) := (blk_cell BK190.out 6).trans rfl
                                    have hcz49_7 : wr.cell? ⟨gb190, 7, none⟩ = some (.int .i64 t187) := (blk_cell BK190.out 7).trans rfl
                                    have hcz49_8 : wr.cell? ⟨gb190, 8, none⟩ = some (.int .i64 t188) := (blk_cell BK190.out 8).trans rfl
                                    have hcz49_9 : wr.cell? ⟨gb190, 9, none⟩ = some (.int .i64 t189) := (blk_cell BK190.out 9).trans rfl
                                    have hfz49_0 := blk_frozen BK190.out 0
                                    have hfz49_1 := blk_frozen BK190.out 1
                                    have hfz49_2 := blk_frozen BK190.out 2
                                    have hfz49_3 := blk_frozen BK190.out 3
                                    have hfz49_4 := blk_frozen BK190.out 4
                                    have hfz49_5 := blk_frozen BK190.out 5
                                    have hfz49_6 := blk_frozen BK190.out 6
                                    have hfz49_7 := blk_frozen BK190.out 7
                                    have hfz49_8 := blk_frozen BK190.out 8
                                    have hfz49_9 := blk_frozen BK190.out 9
                                    go_wp2
                                    go_ret
                                    exact ⟨by first | rfl | (generalize ByteArray.toList _ = l_; cases l_ <;> rfl) | (simp [errW_none, errW_some] <;> rfl) | (simp [*, errW_none, errW_some] <;> rfl), by repeat (first | (with_reducible first | exact HB.out | apply below_alloc | apply pw_below_drewN | apply below_drew1 | refine below_set ?_ GE190.out) | exact HB.out)⟩
                          · rw [if_neg c24] at H
                            exact absurd H (by simp)
                        · rw [if_neg c23] at H
                          exact absurd H (by simp)
                      · rw [if_neg c21] at H
                        exact absurd H (by simp)
                    · rw [if_neg c20] at H
                      exact absurd H (by simp)
                  · rw [if_neg c19] at H
                    exact absurd H (by simp)
                · rw [if_neg c18] at H
                  exact absurd H (by simp)
              · rw [if_neg c16] at H
                exact absurd H (by simp)
            · rw [if_neg c15] at H
              exact absurd H (by simp)
          · rw [if_neg c14] at H
            exact absurd H (by simp)
  · replace c5 := Bool.eq_false_iff.mpr c5
    subst c5
    have H1 : (some false) = some r := by rw [if_neg (show ¬ (false = true) by decide)] at H; exact H
    clear H
    have H := H1
    clear H1
    obtain rfl := Option.some.inj H
    go_enter Tryd.func4, Tryd.ntmps4
    go_wp2_with (first | ((with_reducible refine gate_callee (f := 9) rfl ?_); refine goesL_ (some 13) rfl rfl Tryd.func9 (by kernel_rfl) rfl #[] rfl (by (try simp only [List.map_toArray, List.map_cons, List.map_nil]); first | done | rfl | (simp only [List.length_drop, List.length_take]; rfl)) ?_; (with_reducible refine (pantrylaw04_anchor.calls k  false _ A4.out).mono ?_); rintro e w50 ⟨rfl, hb⟩; refine ⟨_, rfl, ?_⟩; have n0_ := Aside0.mk (below_step (by repeat (first | (with_reducible first | exact HB.out | apply below_alloc | apply pw_below_drewN | apply below_drew1) | exact HB.out)) hb); clear HB; have HB := n0_; clear n0_; (try clear hb); (try clear hb2); (try clear hk); (try clear hi)))
    go_ret
    exact ⟨by first | rfl | (generalize ByteArray.toList _ = l_; cases l_ <;> rfl) | (simp [errW_none, errW_some] <;> rfl) | (simp [*, errW_none, errW_some] <;> rfl), by repeat (first | (with_reducible first | exact HB.out | apply below_alloc | apply pw_below_drewN | apply below_drew1) | exact HB.out)⟩

/-- THE ONE PURE STATEMENT of pantrylaw04_ControlSeconds: yours. -/
def pantrylaw04_ControlSeconds.Pure : Prop := ∀ (a0 : Int) (a1 : Int) (a2 : Int), (Lit.int .i64 a0).wf = true → (Lit.int .i64 a1).wf = true → (Lit.int .i64 a2).wf = true → ∃ k, pantrylaw04_ControlSeconds.f k a0 a1 a2 = some true
theorem pantrylaw04_ControlSeconds.walk (P : pantrylaw04_ControlSeconds.Pure) (a0 : Int) (a1 : Int) (a2 : Int) (w : World) (w0 : (Lit.int .i64 a0).wf = true) (w1 : (Lit.int .i64 a1).wf = true) (w2 : (Lit.int .i64 a2).wf = true) :
    Calls Tryd.prog 4 #[.int .i64 a0, .int .i64 a1, .int .i64 a2] w fun e w' => e = .returned (.bool true) ∧ Below w.heap.size w w' := by
  obtain ⟨k, h⟩ := P a0 a1 a2 w0 w1 w2
  refine (pantrylaw04_ControlSeconds.calls k a0 a1 a2 true w h).mono ?_
  rintro e w' ⟨rfl, hd⟩
  exact ⟨rfl, hd⟩

end Go.Proofs.YtboeabdfnijaaaaDoor.PAll
