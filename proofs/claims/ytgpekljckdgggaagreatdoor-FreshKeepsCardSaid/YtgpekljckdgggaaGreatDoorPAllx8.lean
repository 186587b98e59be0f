import Derived.Test.YtgpekljckdgggaaGreatDoorPAllx0
import Derived.Test.YtgpekljckdgggaaGreatDoorPAllx1
import Derived.Test.YtgpekljckdgggaaGreatDoorPAllx4
import Derived.Test.YtgpekljckdgggaaGreatDoorPAllx6
import Derived.Test.YtgpekljckdgggaaGreatDoorPAllx7
namespace Go.Proofs.YtgpekljckdgggaaGreatDoor.PAll
open Go.RowKit Go.Proofs.YtgpekljckdgggaaGreatDoorW.PrintWords Go.Proofs.YtgpekljckdgggaaGreatDoorW.PrintLast Go.Proofs.YtgpekljckdgggaaGreatDoorW.PrintMore
attribute [local go_sem] max2_int min2_int max_two min_two max_three min_three max_four min_four   -- for this text's walks alone
set_option linter.unusedVariables false
set_option linter.unusedSimpArgs false

/-! ### date_Read: function 62 -/
mutual
def date_Read.j0 : Nat → ByteArray → Int → Int → Int → Int → Int → Int → Bool → Option (Int × Int)
 | 0, _, _, _, _, _, _, _, _ => none
 | k + 1, x0, x4, x5, x6, x7, x8, x9, x79 => if x79 = true then (some (0, 14)) else ((date_before.f x5).bind fun t186 => (date_Read.l0 k x0 x4 x5 x7 x8 x9 (wrap64 ((wrap64 (t186 + x6)) - 1)) 1))
def date_Read.l0 : Nat → ByteArray → Int → Int → Int → Int → Int → Int → Int → Option (Int × Int)
 | 0, _, _, _, _, _, _, _, _ => none
 | k + 1, x0, x4, x5, x7, x8, x9, x10, x11 => if x11 ≤ (wrap64 (Int.tdiv x4 3)) then ((date_Days.f k x5 x11).bind fun t187 => (date_Read.l0 k x0 x4 x5 x7 x8 x9 (wrap64 (x10 + t187)) (wrap64 (x11 + 1)))) else ((date_Show.f k (wrap64 ((wrap64 ((wrap64 ((wrap64 (x10 * 86400)) + (wrap64 (x7 * 3600)))) + (wrap64 (x8 * 60)))) + x9))).bind fun bt188 => (if bt188.1.toList = x0.toList then (some (wrap64 ((wrap64 ((wrap64 ((wrap64 (x10 * 86400)) + (wrap64 (x7 * 3600)))) + (wrap64 (x8 * 60)))) + x9), 0)) else (some (0, 14))))
end
def date_Read.f (k : Nat) (a0 : ByteArray) : Option (Int × Int) := if (a0.size : Int) = 29 then (if 8 ≤ 11 then (if 11 ≤ (a0.size : Int) then ((strings_Index.f (⟨#[74, 97, 110, 70, 101, 98, 77, 97, 114, 65, 112, 114, 77, 97, 121, 74, 117, 110, 74, 117, 108, 65, 117, 103, 83, 101, 112, 79, 99, 116, 78, 111, 118, 68, 101, 99]⟩ : ByteArray) (a0.extract 8 11)).bind fun t179 => (if 12 ≤ 16 then (if 16 ≤ (a0.size : Int) then ((date_digits.f k (a0.extract 12 16)).bind fun t180 => (if 5 ≤ 7 then (if 7 ≤ (a0.size : Int) then ((date_digits.f k (a0.extract 5 7)).bind fun t181 => (if 17 ≤ 19 then (if 19 ≤ (a0.size : Int) then ((date_digits.f k (a0.extract 17 19)).bind fun t182 => (if 20 ≤ 22 then (if 22 ≤ (a0.size : Int) then ((date_digits.f k (a0.extract 20 22)).bind fun t183 => (if 23 ≤ 25 then (if 25 ≤ (a0.size : Int) then ((date_digits.f k (a0.extract 23 25)).bind fun t184 => (if t179 < 0 then (date_Read.j0 k a0 t179 t180 t181 t182 t183 t184 true) else (if (Int.tmod t179 3) = 0 then (if t181 < 1 then (date_Read.j0 k a0 t179 t180 t181 t182 t183 t184 true) else ((date_Days.f k t180 (wrap64 ((wrap64 (Int.tdiv t179 3)) + 1))).bind fun t185 => (if t181 > t185 then (date_Read.j0 k a0 t179 t180 t181 t182 t183 t184 true) else (if t182 < 0 then (date_Read.j0 k a0 t179 t180 t181 t182 t183 t184 true) else (if t182 > 23 then (date_Read.j0 k a0 t179 t180 t181 t182 t183 t184 true) else (if t183 < 0 then (date_Read.j0 k a0 t179 t180 t181 t182 t183 t184 true) else (if t183 > 59 then (date_Read.j0 k a0 t179 t180 t181 t182 t183 t184 true) else (if t184 < 0 then (date_Read.j0 k a0 t179 t180 t181 t182 t183 t184 true) else (date_Read.j0 k a0 t179 t180 t181 t182 t183 t184 (decide (t184 > 59))))))))))) else (date_Read.j0 k a0 t179 t180 t181 t182 t183 t184 true)))) else (none)) else (none))) else (none)) else (none))) else (none)) else (none))) else (none)) else (none))) else (none)) else (none))) else (none)) else (none)) else (some (0, 14))
theorem date_Read.mono_l : ∀ k, (∀ y0 y1 y2 y3 y4 y5 y6 y7, LeO (date_Read.j0 k y0 y1 y2 y3 y4 y5 y6 y7) (date_Read.j0 (k + 1) y0 y1 y2 y3 y4 y5 y6 y7)) ∧ (∀ y0 y1 y2 y3 y4 y5 y6 y7, LeO (date_Read.l0 k y0 y1 y2 y3 y4 y5 y6 y7) (date_Read.l0 (k + 1) y0 y1 y2 y3 y4 y5 y6 y7))
 | 0 => ⟨fun _ _ _ _ _ _ _ _ r h => by simp [date_Read.j0] at h, fun _ _ _ _ _ _ _ _ r h => by simp [date_Read.l0] at h⟩
 | k + 1 => by
  obtain ⟨ih0, ih1⟩ := date_Read.mono_l k
  refine ⟨?_, ?_⟩
  ·
   intro y0 y1 y2 y3 y4 y5 y6 y7
   unfold date_Read.j0
   repeat' (with_reducible first | exact ih0 _ _ _ _ _ _ _ _ | exact ih1 _ _ _ _ _ _ _ _ | exact date_Days.mono _ _ _ | exact date_Show.mono _ _ | exact date_digits.mono _ _ | exact lR_ | refine LeO.ite ?_ ?_ | refine LeO.bind ?_ (fun _ => ?_))
  ·
   intro y0 y1 y2 y3 y4 y5 y6 y7
   unfold date_Read.l0
   repeat' (with_reducible first | exact ih0 _ _ _ _ _ _ _ _ | exact ih1 _ _ _ _ _ _ _ _ | exact date_Days.mono _ _ _ | exact date_Show.mono _ _ | exact date_digits.mono _ _ | exact lR_ | refine LeO.ite ?_ ?_ | refine LeO.bind ?_ (fun _ => ?_))
theorem date_Read.mono : ∀ a0 k, LeO (date_Read.f k a0) (date_Read.f (k + 1) a0) := by
 intro a0 k
 obtain ⟨ih0, ih1⟩ := date_Read.mono_l k
 unfold date_Read.f
 repeat' (with_reducible first | exact ih0 _ _ _ _ _ _ _ _ | exact ih1 _ _ _ _ _ _ _ _ | exact date_Days.mono _ _ _ | exact date_Show.mono _ _ | exact date_digits.mono _ _ | exact lR_ | refine LeO.ite ?_ ?_ | refine LeO.bind ?_ (fun _ => ?_))
set_option maxHeartbeats 8000000 in
set_option maxRecDepth 100000 in
theorem date_Read.calls (k : Nat) (a0 : ByteArray) (r1 : Int) (r2 : Int) (w : World) (hrW : WF w) (h : date_Read.f k a0 = some (r1, r2)) :
  Calls Tryz.prog 62 #[.string a0] w fun e w' => e = .returned (.tuple #[.int .i64 r1, .int .i64 r2]) ∧ Below w.heap.size w w' := by
 have HRW := Aside0.mk hrW
 clear hrW
 have HB := Aside0.mk (Below.refl w.heap.size w)
 have H : (if (a0.size : Int) = 29 then (if 8 ≤ 11 then (if 11 ≤ (a0.size : Int) then ((strings_Index.f (⟨#[74, 97, 110, 70, 101, 98, 77, 97, 114, 65, 112, 114, 77, 97, 121, 74, 117, 110, 74, 117, 108, 65, 117, 103, 83, 101, 112, 79, 99, 116, 78, 111, 118, 68, 101, 99]⟩ : ByteArray) (a0.extract 8 11)).bind fun t179 => (if 12 ≤ 16 then (if 16 ≤ (a0.size : Int) then ((date_digits.f k (a0.extract 12 16)).bind fun t180 => (if 5 ≤ 7 then (if 7 ≤ (a0.size : Int) then ((date_digits.f k (a0.extract 5 7)).bind fun t181 => (if 17 ≤ 19 then (if 19 ≤ (a0.size : Int) then ((date_digits.f k (a0.extract 17 19)).bind fun t182 => (if 20 ≤ 22 then (if 22 ≤ (a0.size : Int) then ((date_digits.f k (a0.extract 20 22)).bind fun t183 => (if 23 ≤ 25 then (if 25 ≤ (a0.size : Int) then ((date_digits.f k (a0.extract 23 25)).bind fun t184 => (if t179 < 0 then (date_Read.j0 k a0 t179 t180 t181 t182 t183 t184 true) else (if (Int.tmod t179 3) = 0 then (if t181 < 1 then (date_Read.j0 k a0 t179 t180 t181 t182 t183 t184 true) else ((date_Days.f k t180 (wrap64 ((wrap64 (Int.tdiv t179 3)) + 1))).bind fun t185 => (if t181 > t185 then (date_Read.j0 k a0 t179 t180 t181 t182 t183 t184 true) else (if t182 < 0 then (date_Read.j0 k a0 t179 t180 t181 t182 t183 t184 true) else (if t182 > 23 then (date_Read.j0 k a0 t179 t180 t181 t182 t183 t184 true) else (if t183 < 0 then (date_Read.j0 k a0 t179 t180 t181 t182 t183 t184 true) else (if t183 > 59 then (date_Read.j0 k a0 t179 t180 t181 t182 t183 t184 true) else (if t184 < 0 then (date_Read.j0 k a0 t179 t180 t181 t182 t183 t184 true) else (date_Read.j0 k a0 t179 t180 t181 t182 t183 t184 (decide (t184 > 59))))))))))) else (date_Read.j0 k a0 t179 t180 t181 t182 t183 t184 true)))) else (none)) else (none))) else (none)) else (none))) else (none)) else (none))) else (none)) else (none))) else (none)) else (none))) else (none)) else (none)) else (some (0, 14))) = some (r1, r2) := h
 clear h
 by_cases c2 : (a0.size : Int) = 29
 ·
  rw [if_pos c2] at H
  have c2b0 : ((a0.size : Int) == 29) = true := beq_iff_eq.mpr c2
  have c2b1 : ((a0.size : Int) != 29) = false := bne_eq_false_iff_eq.mpr c2
  clear c2
  by_cases c3 : 8 ≤ 11
  ·
   rw [if_pos c3] at H
   have c3b0 := eq_true c3
   have c3b1 : decide (8 ≤ 11) = true := decide_eq_true c3
   clear c3
   by_cases c4 : 11 ≤ (a0.size : Int)
   ·
    rw [if_pos c4] at H
    have c4b0 := eq_true c4
    have c4b1 : decide (11 ≤ (a0.size : Int)) = true := decide_eq_true c4
    clear c4
    obtain ⟨t179, A5, H⟩ := bS_ H
    try dsimp only at H
    by_cases c6 : 12 ≤ 16
    ·
     rw [if_pos c6] at H
     have c6b0 := eq_true c6
     have c6b1 : decide (12 ≤ 16) = true := decide_eq_true c6
     clear c6
     by_cases c7 : 16 ≤ (a0.size : Int)
     ·
      rw [if_pos c7] at H
      have c7b0 := eq_true c7
      have c7b1 : decide (16 ≤ (a0.size : Int)) = true := decide_eq_true c7
      clear c7
      obtain ⟨t180, A8, H⟩ := bS_ H
      try dsimp only at H
      by_cases c9 : 5 ≤ 7
      ·
       rw [if_pos c9] at H
       have c9b0 := eq_true c9
       have c9b1 : decide (5 ≤ 7) = true := decide_eq_true c9
       clear c9
       by_cases c10 : 7 ≤ (a0.size : Int)
       ·
        rw [if_pos c10] at H
        have c10b0 := eq_true c10
        have c10b1 : decide (7 ≤ (a0.size : Int)) = true := decide_eq_true c10
        clear c10
        obtain ⟨t181, A11, H⟩ := bS_ H
        try dsimp only at H
        by_cases c12 : 17 ≤ 19
        ·
         rw [if_pos c12] at H
         have c12b0 := eq_true c12
         have c12b1 : decide (17 ≤ 19) = true := decide_eq_true c12
         clear c12
         by_cases c13 : 19 ≤ (a0.size : Int)
         ·
          rw [if_pos c13] at H
          have c13b0 := eq_true c13
          have c13b1 : decide (19 ≤ (a0.size : Int)) = true := decide_eq_true c13
          clear c13
          obtain ⟨t182, A14, H⟩ := bS_ H
          try dsimp only at H
          by_cases c15 : 20 ≤ 22
          ·
           rw [if_pos c15] at H
           have c15b0 := eq_true c15
           have c15b1 : decide (20 ≤ 22) = true := decide_eq_true c15
           clear c15
           by_cases c16 : 22 ≤ (a0.size : Int)
           ·
            rw [if_pos c16] at H
            have c16b0 := eq_true c16
            have c16b1 : decide (22 ≤ (a0.size : Int)) = true := decide_eq_true c16
            clear c16
            obtain ⟨t183, A17, H⟩ := bS_ H
            try dsimp only at H
            by_cases c18 : 23 ≤ 25
            ·
             rw [if_pos c18] at H
             have c18b0 := eq_true c18
             have c18b1 : decide (23 ≤ 25) = true := decide_eq_true c18
             clear c18
             by_cases c19 : 25 ≤ (a0.size : Int)
             ·
              rw [if_pos c19] at H
              have c19b0 := eq_true c19
              have c19b1 : decide (25 ≤ (a0.size : Int)) = true := decide_eq_true c19
              clear c19
              obtain ⟨t184, A20, H⟩ := bS_ H
              try dsimp only at H
              have HC21 := Aside0.mk H
              clear H
              go_enter Tryz.func62, Tryz.ntmps62
              go_upto_region 6 with (first | (go_at_call 82; (with_reducible refine (strings_Index.calls (⟨#[74, 97, 110, 70, 101, 98, 77, 97, 114, 65, 112, 114, 77, 97, 121, 74, 117, 110, 74, 117, 108, 65, 117, 103, 83, 101, 112, 79, 99, 116, 78, 111, 118, 68, 101, 99]⟩ : ByteArray) (a0.extract 8 11) t179 _ ?side1 A5.out).mono ?_); (case side1 => exact C1_ (HRW.out)); rintro e w' ⟨rfl, ⟨nd, rfl⟩⟩; (try exact Q1_)) | (go_at_call 83; (with_reducible refine (date_digits.calls k (a0.extract 12 16) t180 _ A8.out).mono ?_); rintro e w' ⟨rfl, ⟨nd, rfl⟩⟩; (try exact Q1_)) | (go_at_call 83; (with_reducible refine (date_digits.calls k (a0.extract 5 7) t181 _ A11.out).mono ?_); rintro e w' ⟨rfl, ⟨nd, rfl⟩⟩; (try exact Q1_)) | (go_at_call 83; (with_reducible refine (date_digits.calls k (a0.extract 17 19) t182 _ A14.out).mono ?_); rintro e w' ⟨rfl, ⟨nd, rfl⟩⟩; (try exact Q1_)) | (go_at_call 83; (with_reducible refine (date_digits.calls k (a0.extract 20 22) t183 _ A17.out).mono ?_); rintro e w' ⟨rfl, ⟨nd, rfl⟩⟩; (try exact Q1_)) | (go_at_call 83; (with_reducible refine (date_digits.calls k (a0.extract 23 25) t184 _ A20.out).mono ?_); rintro e w' ⟨rfl, ⟨nd, rfl⟩⟩; (try exact Q1_)))
              repeat (go_quiet (first | (go_at_call 82; (with_reducible refine (strings_Index.calls (⟨#[74, 97, 110, 70, 101, 98, 77, 97, 114, 65, 112, 114, 77, 97, 121, 74, 117, 110, 74, 117, 108, 65, 117, 103, 83, 101, 112, 79, 99, 116, 78, 111, 118, 68, 101, 99]⟩ : ByteArray) (a0.extract 8 11) t179 _ ?side1 A5.out).mono ?_); (case side1 => exact C1_ (HRW.out)); rintro e w' ⟨rfl, ⟨nd, rfl⟩⟩; (try exact Q1_)) | (go_at_call 83; (with_reducible refine (date_digits.calls k (a0.extract 12 16) t180 _ A8.out).mono ?_); rintro e w' ⟨rfl, ⟨nd, rfl⟩⟩; (try exact Q1_)) | (go_at_call 83; (with_reducible refine (date_digits.calls k (a0.extract 5 7) t181 _ A11.out).mono ?_); rintro e w' ⟨rfl, ⟨nd, rfl⟩⟩; (try exact Q1_)) | (go_at_call 83; (with_reducible refine (date_digits.calls k (a0.extract 17 19) t182 _ A14.out).mono ?_); rintro e w' ⟨rfl, ⟨nd, rfl⟩⟩; (try exact Q1_)) | (go_at_call 83; (with_reducible refine (date_digits.calls k (a0.extract 20 22) t183 _ A17.out).mono ?_); rintro e w' ⟨rfl, ⟨nd, rfl⟩⟩; (try exact Q1_)) | (go_at_call 83; (with_reducible refine (date_digits.calls k (a0.extract 23 25) t184 _ A20.out).mono ?_); rintro e w' ⟨rfl, ⟨nd, rfl⟩⟩; (try exact Q1_))); go_upto_region 6 with (first | (go_at_call 82; (with_reducible refine (strings_Index.calls (⟨#[74, 97, 110, 70, 101, 98, 77, 97, 114, 65, 112, 114, 77, 97, 121, 74, 117, 110, 74, 117, 108, 65, 117, 103, 83, 101, 112, 79, 99, 116, 78, 111, 118, 68, 101, 99]⟩ : ByteArray) (a0.extract 8 11) t179 _ ?side1 A5.out).mono ?_); (case side1 => exact C1_ (HRW.out)); rintro e w' ⟨rfl, ⟨nd, rfl⟩⟩; (try exact Q1_)) | (go_at_call 83; (with_reducible refine (date_digits.calls k (a0.extract 12 16) t180 _ A8.out).mono ?_); rintro e w' ⟨rfl, ⟨nd, rfl⟩⟩; (try exact Q1_)) | (go_at_call 83; (with_reducible refine (date_digits.calls k (a0.extract 5 7) t181 _ A11.out).mono ?_); rintro e w' ⟨rfl, ⟨nd, rfl⟩⟩; (try exact Q1_)) | (go_at_call 83; (with_reducible refine (date_digits.calls k (a0.extract 17 19) t182 _ A14.out).mono ?_); rintro e w' ⟨rfl, ⟨nd, rfl⟩⟩; (try exact Q1_)) | (go_at_call 83; (with_reducible refine (date_digits.calls k (a0.extract 20 22) t183 _ A17.out).mono ?_); rintro e w' ⟨rfl, ⟨nd, rfl⟩⟩; (try exact Q1_)) | (go_at_call 83; (with_reducible refine (date_digits.calls k (a0.extract 23 25) t184 _ A20.out).mono ?_); rintro e w' ⟨rfl, ⟨nd, rfl⟩⟩; (try exact Q1_))))
              (try simp only [Act.put, sA_, sZ_, sS_])
              go_cut [79] (fun v79 wc => ∃ (kq : Nat) (x79_20 : Bool), v79 = .bool x79_20 ∧ Aside0 (date_Read.j0 kq a0 t179 t180 t181 t182 t183 t184 x79_20 = some (r1, r2)) ∧ Aside0 (kq ≤ k) ∧ Aside0 (Below w.heap.size w wc))
              case first =>
               have H := HC21.out
               clear HC21
               by_cases c22 : t179 < 0
               ·
                rw [if_pos c22] at H
                have c22b0 : decide (t179 < 0) = true := decide_eq_true c22
                clear c22
                (first | rw [c22b0] | (simp only [i64_w, i32_w]; rw [c22b0]) | skip)
                have H' := Aside0.mk H
                clear H
                go_wp2
                repeat (go_quiet (fail); try go_wp2)
                go_meet
                case rel => exact ⟨_, (true), E3_, H', ⟨by first | omega | exact Nat.le_refl _⟩, ⟨W1_⟩⟩
               ·
                rw [if_neg c22] at H
                have c22b0 : decide (t179 < 0) = false := decide_eq_false c22
                clear c22
                (first | rw [c22b0] | (simp only [i64_w, i32_w]; rw [c22b0]) | skip)
                by_cases c23 : (Int.tmod t179 3) = 0
                ·
                 rw [if_pos c23] at H
                 have c23b0 : ((Int.tmod t179 3) == 0) = true := beq_iff_eq.mpr c23
                 have c23b1 : ((Int.tmod t179 3) != 0) = false := bne_eq_false_iff_eq.mpr c23
                 clear c23
                 by_cases c24 : t181 < 1
                 ·
                  rw [if_pos c24] at H
                  have c24b0 : decide (t181 < 1) = true := decide_eq_true c24
                  clear c24
                  have H' := Aside0.mk H
                  clear H
                  go_wp2
                  repeat (go_quiet (fail); try go_wp2)
                  go_meet
                  case rel => exact ⟨_, (true), E3_, H', ⟨by first | omega | exact Nat.le_refl _⟩, ⟨W1_⟩⟩
                 ·
                  rw [if_neg c24] at H
                  have c24b0 : decide (t181 < 1) = false := decide_eq_false c24
                  clear c24
                  obtain ⟨t185, A25, H⟩ := bS_ H
                  try dsimp only at H
                  by_cases c26 : t181 > t185
                  ·
                   rw [if_pos c26] at H
                   have c26b0 : decide (t185 < t181) = true := decide_eq_true c26
                   clear c26
                   have H' := Aside0.mk H
                   clear H
                   go_wp2_with (first | (go_at_call 84; (with_reducible refine (date_Days.calls k t180 (wrap64 ((wrap64 (Int.tdiv t179 3)) + 1)) t185 _ A25.out).mono ?_); rintro e w' ⟨rfl, ⟨nd, rfl⟩⟩; (try exact Q1_)))
                   repeat (go_quiet (first | (go_at_call 84; (with_reducible refine (date_Days.calls k t180 (wrap64 ((wrap64 (Int.tdiv t179 3)) + 1)) t185 _ A25.out).mono ?_); rintro e w' ⟨rfl, ⟨nd, rfl⟩⟩; (try exact Q1_))); try go_wp2_with (first | (go_at_call 84; (with_reducible refine (date_Days.calls k t180 (wrap64 ((wrap64 (Int.tdiv t179 3)) + 1)) t185 _ A25.out).mono ?_); rintro e w' ⟨rfl, ⟨nd, rfl⟩⟩; (try exact Q1_))))
                   go_meet
                   case rel => exact ⟨_, (true), E3_, H', ⟨by first | omega | exact Nat.le_refl _⟩, ⟨W1_⟩⟩
                  ·
                   rw [if_neg c26] at H
                   have c26b0 : decide (t185 < t181) = false := decide_eq_false c26
                   clear c26
                   by_cases c27 : t182 < 0
                   ·
                    rw [if_pos c27] at H
                    have c27b0 : decide (t182 < 0) = true := decide_eq_true c27
                    clear c27
                    have H' := Aside0.mk H
                    clear H
                    go_wp2_with (first | (go_at_call 84; (with_reducible refine (date_Days.calls k t180 (wrap64 ((wrap64 (Int.tdiv t179 3)) + 1)) t185 _ A25.out).mono ?_); rintro e w' ⟨rfl, ⟨nd, rfl⟩⟩; (try exact Q1_)))
                    repeat (go_quiet (first | (go_at_call 84; (with_reducible refine (date_Days.calls k t180 (wrap64 ((wrap64 (Int.tdiv t179 3)) + 1)) t185 _ A25.out).mono ?_); rintro e w' ⟨rfl, ⟨nd, rfl⟩⟩; (try exact Q1_))); try go_wp2_with (first | (go_at_call 84; (with_reducible refine (date_Days.calls k t180 (wrap64 ((wrap64 (Int.tdiv t179 3)) + 1)) t185 _ A25.out).mono ?_); rintro e w' ⟨rfl, ⟨nd, rfl⟩⟩; (try exact Q1_))))
                    go_meet
                    case rel => exact ⟨_, (true), E3_, H', ⟨by first | omega | exact Nat.le_refl _⟩, ⟨W1_⟩⟩
                   ·
                    rw [if_neg c27] at H
                    have c27b0 : decide (t182 < 0) = false := decide_eq_false c27
                    clear c27
                    by_cases c28 : t182 > 23
                    ·
                     rw [if_pos c28] at H
                     have c28b0 : decide (23 < t182) = true := decide_eq_true c28
                     clear c28
                     have H' := Aside0.mk H
                     clear H
                     go_wp2_with (first | (go_at_call 84; (with_reducible refine (date_Days.calls k t180 (wrap64 ((wrap64 (Int.tdiv t179 3)) + 1)) t185 _ A25.out).mono ?_); rintro e w' ⟨rfl, ⟨nd, rfl⟩⟩; (try exact Q1_)))
                     repeat (go_quiet (first | (go_at_call 84; (with_reducible refine (date_Days.calls k t180 (wrap64 ((wrap64 (Int.tdiv t179 3)) + 1)) t185 _ A25.out).mono ?_); rintro e w' ⟨rfl, ⟨nd, rfl⟩⟩; (try exact Q1_))); try go_wp2_with (first | (go_at_call 84; (with_reducible refine (date_Days.calls k t180 (wrap64 ((wrap64 (Int.tdiv t179 3)) + 1)) t185 _ A25.out).mono ?_); rintro e w' ⟨rfl, ⟨nd, rfl⟩⟩; (try exact Q1_))))
                     go_meet
                     case rel => exact ⟨_, (true), E3_, H', ⟨by first | omega | exact Nat.le_refl _⟩, ⟨W1_⟩⟩
                    ·
                     rw [if_neg c28] at H
                     have c28b0 : decide (23 < t182) = false := decide_eq_false c28
                     clear c28
                     by_cases c29 : t183 < 0
                     ·
                      rw [if_pos c29] at H
                      have c29b0 : decide (t183 < 0) = true := decide_eq_true c29
                      clear c29
                      have H' := Aside0.mk H
                      clear H
                      go_wp2_with (first | (go_at_call 84; (with_reducible refine (date_Days.calls k t180 (wrap64 ((wrap64 (Int.tdiv t179 3)) + 1)) t185 _ A25.out).mono ?_); rintro e w' ⟨rfl, ⟨nd, rfl⟩⟩; (try exact Q1_)))
                      repeat (go_quiet (first | (go_at_call 84; (with_reducible refine (date_Days.calls k t180 (wrap64 ((wrap64 (Int.tdiv t179 3)) + 1)) t185 _ A25.out).mono ?_); rintro e w' ⟨rfl, ⟨nd, rfl⟩⟩; (try exact Q1_))); try go_wp2_with (first | (go_at_call 84; (with_reducible refine (date_Days.calls k t180 (wrap64 ((wrap64 (Int.tdiv t179 3)) + 1)) t185 _ A25.out).mono ?_); rintro e w' ⟨rfl, ⟨nd, rfl⟩⟩; (try exact Q1_))))
                      go_meet
                      case rel => exact ⟨_, (true), E3_, H', ⟨by first | omega | exact Nat.le_refl _⟩, ⟨W1_⟩⟩
                     ·
                      rw [if_neg c29] at H
                      have c29b0 : decide (t183 < 0) = false := decide_eq_false c29
                      clear c29
                      by_cases c30 : t183 > 59
                      ·
                       rw [if_pos c30] at H
                       have c30b0 : decide (59 < t183) = true := decide_eq_true c30
                       clear c30
                       have H' := Aside0.mk H
                       clear H
                       go_wp2_with (first | (go_at_call 84; (with_reducible refine (date_Days.calls k t180 (wrap64 ((wrap64 (Int.tdiv t179 3)) + 1)) t185 _ A25.out).mono ?_); rintro e w' ⟨rfl, ⟨nd, rfl⟩⟩; (try exact Q1_)))
                       repeat (go_quiet (first | (go_at_call 84; (with_reducible refine (date_Days.calls k t180 (wrap64 ((wrap64 (Int.tdiv t179 3)) + 1)) t185 _ A25.out).mono ?_); rintro e w' ⟨rfl, ⟨nd, rfl⟩⟩; (try exact Q1_))); try go_wp2_with (first | (go_at_call 84; (with_reducible refine (date_Days.calls k t180 (wrap64 ((wrap64 (Int.tdiv t179 3)) + 1)) t185 _ A25.out).mono ?_); rintro e w' ⟨rfl, ⟨nd, rfl⟩⟩; (try exact Q1_))))
                       go_meet
                       case rel => exact ⟨_, (true), E3_, H', ⟨by first | omega | exact Nat.le_refl _⟩, ⟨W1_⟩⟩
                      ·
                       rw [if_neg c30] at H
                       have c30b0 : decide (59 < t183) = false := decide_eq_false c30
                       clear c30
                       by_cases c31 : t184 < 0
                       ·
                        rw [if_pos c31] at H
                        have c31b0 : decide (t184 < 0) = true := decide_eq_true c31
                        clear c31
                        have H' := Aside0.mk H
                        clear H
                        go_wp2_with (first | (go_at_call 84; (with_reducible refine (date_Days.calls k t180 (wrap64 ((wrap64 (Int.tdiv t179 3)) + 1)) t185 _ A25.out).mono ?_); rintro e w' ⟨rfl, ⟨nd, rfl⟩⟩; (try exact Q1_)))
                        repeat (go_quiet (first | (go_at_call 84; (with_reducible refine (date_Days.calls k t180 (wrap64 ((wrap64 (Int.tdiv t179 3)) + 1)) t185 _ A25.out).mono ?_); rintro e w' ⟨rfl, ⟨nd, rfl⟩⟩; (try exact Q1_))); try go_wp2_with (first | (go_at_call 84; (with_reducible refine (date_Days.calls k t180 (wrap64 ((wrap64 (Int.tdiv t179 3)) + 1)) t185 _ A25.out).mono ?_); rintro e w' ⟨rfl, ⟨nd, rfl⟩⟩; (try exact Q1_))))
                        go_meet
                        case rel => exact ⟨_, (true), E3_, H', ⟨by first | omega | exact Nat.le_refl _⟩, ⟨W1_⟩⟩
                       ·
                        rw [if_neg c31] at H
                        have c31b0 : decide (t184 < 0) = false := decide_eq_false c31
                        clear c31
                        have H' := Aside0.mk H
                        clear H
                        go_wp2_with (first | (go_at_call 84; (with_reducible refine (date_Days.calls k t180 (wrap64 ((wrap64 (Int.tdiv t179 3)) + 1)) t185 _ A25.out).mono ?_); rintro e w' ⟨rfl, ⟨nd, rfl⟩⟩; (try exact Q1_)))
                        repeat (go_quiet (first | (go_at_call 84; (with_reducible refine (date_Days.calls k t180 (wrap64 ((wrap64 (Int.tdiv t179 3)) + 1)) t185 _ A25.out).mono ?_); rintro e w' ⟨rfl, ⟨nd, rfl⟩⟩; (try exact Q1_))); try go_wp2_with (first | (go_at_call 84; (with_reducible refine (date_Days.calls k t180 (wrap64 ((wrap64 (Int.tdiv t179 3)) + 1)) t185 _ A25.out).mono ?_); rintro e w' ⟨rfl, ⟨nd, rfl⟩⟩; (try exact Q1_))))
                        go_meet
                        case rel => exact ⟨_, (decide (t184 > 59)), E3_, H', ⟨by first | omega | exact Nat.le_refl _⟩, ⟨W1_⟩⟩
                ·
                 rw [if_neg c23] at H
                 have c23b0 : ((Int.tmod t179 3) == 0) = false := beq_eq_false_iff_ne.mpr c23
                 have c23b1 : ((Int.tmod t179 3) != 0) = true := bne_iff_ne.mpr c23
                 have H' := Aside0.mk H
                 clear H
                 go_wp2
                 repeat (go_quiet (fail); try go_wp2)
                 go_meet
                 case rel => exact ⟨_, (true), E3_, H', ⟨by first | omega | exact Nat.le_refl _⟩, ⟨W1_⟩⟩
              case rest =>
               clear HC21
               (try clear c2); (try clear c2b0); (try clear c2b1); (try clear c3); (try clear c3b0); (try clear c3b1); (try clear c4); (try clear c4b0); (try clear c4b1); (try clear c6); (try clear c6b0); (try clear c6b1); (try clear c7); (try clear c7b0); (try clear c7b1); (try clear c9); (try clear c9b0); (try clear c9b1); (try clear c10); (try clear c10b0); (try clear c10b1); (try clear c12); (try clear c12b0); (try clear c12b1); (try clear c13); (try clear c13b0); (try clear c13b1); (try clear c15); (try clear c15b0); (try clear c15b1); (try clear c16); (try clear c16b0); (try clear c16b1); (try clear c18); (try clear c18b0); (try clear c18b1); (try clear c19); (try clear c19b0); (try clear c19b1); (try clear c22); (try clear c22b0); (try clear c23); (try clear c23b0); (try clear c23b1); (try clear c24); (try clear c24b0); (try clear c26); (try clear c26b0); (try clear c27); (try clear c27b0); (try clear c28); (try clear c28b0); (try clear c29); (try clear c29b0); (try clear c30); (try clear c30b0); (try clear c31); (try clear c31b0)
               obtain ⟨kq, x79_20, rfl, HA, HJ20, HB⟩ := hcut
               cases kq with
               | zero => exact absurd HA.out (by simp [date_Read.j0])
               | succ kj20 =>
                have H := HA.out
                clear HA
                simp only [date_Read.j0] at H
                by_cases c32 : x79_20 = true
                ·
                 subst c32
                 rw [if_pos rfl] at H
                 simp only [Option.some.injEq, Prod.mk.injEq] at H
                 obtain ⟨rfl, rfl⟩ := H
                 go_wp2
                 repeat (go_quiet (fail); try go_wp2)
                 go_ret2
                 exact ⟨E1_, W1_⟩
                ·
                 replace c32 := Bool.eq_false_iff.mpr c32
                 subst c32
                 rw [if_neg (show ¬ (false = true) by decide)] at H
                 obtain ⟨t186, A33, H⟩ := bS_ H
                 try dsimp only at H
                 have H' := Aside0.mk H
                 clear H
                 go_wp2_with (first | (go_at_call 85; (with_reducible refine (date_before.calls t180 t186 _ A33.out).mono ?_); rintro e w' ⟨rfl, ⟨nd, rfl⟩⟩; (try exact Q1_)))
                 repeat (go_quiet (first | (go_at_call 85; (with_reducible refine (date_before.calls t180 t186 _ A33.out).mono ?_); rintro e w' ⟨rfl, ⟨nd, rfl⟩⟩; (try exact Q1_))); try go_wp2_with (first | (go_at_call 85; (with_reducible refine (date_before.calls t180 t186 _ A33.out).mono ?_); rintro e w' ⟨rfl, ⟨nd, rfl⟩⟩; (try exact Q1_))))
                 go_loopg [10, 11] kj20 (fun kq v10 v11 w' => ∃ (x10_2 : Int) (x11_2 : Int), v10 = .int .i64 x10_2 ∧ v11 = .int .i64 x11_2 ∧ Aside0 (date_Read.l0 kq a0 t179 t180 t182 t183 t184 x10_2 x11_2 = some (r1, r2)) ∧ Aside0 (kq ≤ kj20) ∧ Aside0 (Below w.heap.size w w'))
                 case atStart => exact ⟨(wrap64 ((wrap64 (t186 + t181)) - 1)), (1), E3_, E3_, H', ⟨Nat.le_refl _⟩, ⟨W1_⟩⟩
                 case round =>
                  clear H'
                  (try clear c2); (try clear c2b0); (try clear c2b1); (try clear c3); (try clear c3b0); (try clear c3b1); (try clear c4); (try clear c4b0); (try clear c4b1); (try clear c6); (try clear c6b0); (try clear c6b1); (try clear c7); (try clear c7b0); (try clear c7b1); (try clear c9); (try clear c9b0); (try clear c9b1); (try clear c10); (try clear c10b0); (try clear c10b1); (try clear c12); (try clear c12b0); (try clear c12b1); (try clear c13); (try clear c13b0); (try clear c13b1); (try clear c15); (try clear c15b0); (try clear c15b1); (try clear c16); (try clear c16b0); (try clear c16b1); (try clear c18); (try clear c18b0); (try clear c18b1); (try clear c19); (try clear c19b0); (try clear c19b1); (try clear c22); (try clear c22b0); (try clear c23); (try clear c23b0); (try clear c23b1); (try clear c24); (try clear c24b0); (try clear c26); (try clear c26b0); (try clear c27); (try clear c27b0); (try clear c28); (try clear c28b0); (try clear c29); (try clear c29b0); (try clear c30); (try clear c30b0); (try clear c31); (try clear c31b0); (try clear c32)
                  obtain ⟨x10_2, x11_2, rfl, rfl, HA, HK2, HB⟩ := hrel
                  cases gk with
                  | zero => exact absurd HA.out (by simp [date_Read.l0])
                  | succ k2 =>
                   have H := HA.out
                   clear HA
                   simp only [date_Read.l0] at H
                   by_cases c34 : x11_2 ≤ (wrap64 (Int.tdiv t179 3))
                   ·
                    rw [if_pos c34] at H
                    have c34b0 : decide (x11_2 ≤ (wrap64 (Int.tdiv t179 3))) = true := decide_eq_true c34
                    clear c34
                    obtain ⟨t187, A35, H⟩ := bS_ H
                    try dsimp only at H
                    have H' := Aside0.mk H
                    clear H
                    go_wp2_with (first | (go_at_call 84; (with_reducible refine (date_Days.calls k2 t180 x11_2 t187 _ A35.out).mono ?_); rintro e w' ⟨rfl, ⟨nd, rfl⟩⟩; (try exact Q1_)))
                    repeat (go_quiet (first | (go_at_call 84; (with_reducible refine (date_Days.calls k2 t180 x11_2 t187 _ A35.out).mono ?_); rintro e w' ⟨rfl, ⟨nd, rfl⟩⟩; (try exact Q1_))); try go_wp2_with (first | (go_at_call 84; (with_reducible refine (date_Days.calls k2 t180 x11_2 t187 _ A35.out).mono ?_); rintro e w' ⟨rfl, ⟨nd, rfl⟩⟩; (try exact Q1_))))
                    go_roundg k2
                    case measure => have := HJ20.out; have := HK2.out; omega
                    case rel => exact ⟨(wrap64 (x10_2 + t187)), (wrap64 (x11_2 + 1)), E3_, E3_, H', ⟨by have := HJ20.out; have := HK2.out; omega⟩, ⟨W1_⟩⟩
                   ·
                    rw [if_neg c34] at H
                    have c34b0 : decide (x11_2 ≤ (wrap64 (Int.tdiv t179 3))) = false := decide_eq_false c34
                    clear c34
                    obtain ⟨⟨t188, t189⟩, A36, H⟩ := bS_ H
                    try dsimp only at H
                    by_cases c37 : t188.toList = a0.toList
                    ·
                     rw [if_pos c37] at H
                     have c37b0 : (t188.toList == a0.toList) = true := beq_iff_eq.mpr c37
                     have c37b1 : (t188.toList != a0.toList) = false := bne_eq_false_iff_eq.mpr c37
                     clear c37
                     simp only [Option.some.injEq, Prod.mk.injEq] at H
                     obtain ⟨rfl, rfl⟩ := H
                     go_wp2_with (first | (go_at_call 86; (with_reducible refine (date_Show.calls k2 (wrap64 ((wrap64 ((wrap64 ((wrap64 (x10_2 * 86400)) + (wrap64 (t182 * 3600)))) + (wrap64 (t183 * 60)))) + t184)) t188 t189 _ A36.out).mono ?_); rintro e w38 ⟨rfl, hb⟩; replace HB := y1_ hb; (try clear hb)))
                     repeat (go_quiet (first | (go_at_call 86; (with_reducible refine (date_Show.calls k2 (wrap64 ((wrap64 ((wrap64 ((wrap64 (x10_2 * 86400)) + (wrap64 (t182 * 3600)))) + (wrap64 (t183 * 60)))) + t184)) t188 t189 _ A36.out).mono ?_); rintro e w38 ⟨rfl, hb⟩; replace HB := y1_ hb; (try clear hb))); try go_wp2_with (first | (go_at_call 86; (with_reducible refine (date_Show.calls k2 (wrap64 ((wrap64 ((wrap64 ((wrap64 (x10_2 * 86400)) + (wrap64 (t182 * 3600)))) + (wrap64 (t183 * 60)))) + t184)) t188 t189 _ A36.out).mono ?_); rintro e w38 ⟨rfl, hb⟩; replace HB := y1_ hb; (try clear hb))))
                     go_ret2
                     exact ⟨E1_, W1_⟩
                    ·
                     rw [if_neg c37] at H
                     have c37b0 : (t188.toList == a0.toList) = false := beq_eq_false_iff_ne.mpr c37
                     have c37b1 : (t188.toList != a0.toList) = true := bne_iff_ne.mpr c37
                     simp only [Option.some.injEq, Prod.mk.injEq] at H
                     obtain ⟨rfl, rfl⟩ := H
                     go_wp2_with (first | (go_at_call 86; (with_reducible refine (date_Show.calls k2 (wrap64 ((wrap64 ((wrap64 ((wrap64 (x10_2 * 86400)) + (wrap64 (t182 * 3600)))) + (wrap64 (t183 * 60)))) + t184)) t188 t189 _ A36.out).mono ?_); rintro e w39 ⟨rfl, hb⟩; replace HB := y1_ hb; (try clear hb)))
                     repeat (go_quiet (first | (go_at_call 86; (with_reducible refine (date_Show.calls k2 (wrap64 ((wrap64 ((wrap64 ((wrap64 (x10_2 * 86400)) + (wrap64 (t182 * 3600)))) + (wrap64 (t183 * 60)))) + t184)) t188 t189 _ A36.out).mono ?_); rintro e w39 ⟨rfl, hb⟩; replace HB := y1_ hb; (try clear hb))); try go_wp2_with (first | (go_at_call 86; (with_reducible refine (date_Show.calls k2 (wrap64 ((wrap64 ((wrap64 ((wrap64 (x10_2 * 86400)) + (wrap64 (t182 * 3600)))) + (wrap64 (t183 * 60)))) + t184)) t188 t189 _ A36.out).mono ?_); rintro e w39 ⟨rfl, hb⟩; replace HB := y1_ hb; (try clear hb))))
                     go_ret2
                     exact ⟨E1_, W1_⟩
             ·
              rw [if_neg c19] at H
              exact absurd H (by simp)
            ·
             rw [if_neg c18] at H
             exact absurd H (by simp)
           ·
            rw [if_neg c16] at H
            exact absurd H (by simp)
          ·
           rw [if_neg c15] at H
           exact absurd H (by simp)
         ·
          rw [if_neg c13] at H
          exact absurd H (by simp)
        ·
         rw [if_neg c12] at H
         exact absurd H (by simp)
       ·
        rw [if_neg c10] at H
        exact absurd H (by simp)
      ·
       rw [if_neg c9] at H
       exact absurd H (by simp)
     ·
      rw [if_neg c7] at H
      exact absurd H (by simp)
    ·
     rw [if_neg c6] at H
     exact absurd H (by simp)
   ·
    rw [if_neg c4] at H
    exact absurd H (by simp)
  ·
   rw [if_neg c3] at H
   exact absurd H (by simp)
 ·
  rw [if_neg c2] at H
  have c2b0 : ((a0.size : Int) == 29) = false := beq_eq_false_iff_ne.mpr c2
  have c2b1 : ((a0.size : Int) != 29) = true := bne_iff_ne.mpr c2
  simp only [Option.some.injEq, Prod.mk.injEq] at H
  obtain ⟨rfl, rfl⟩ := H
  go_enter Tryz.func62, Tryz.ntmps62
  go_wp2
  repeat (go_quiet (fail); try go_wp2)
  go_ret2
  exact ⟨E1_, W1_⟩

/-! ### fresh_dated: function 38 -/
def fresh_dated.f (k : Nat) (l0 : List (S46)) (a1 : ByteArray) (a2 : Int) : Option (Int) := (field_List_Get.f k l0 a1).bind fun bt190 => ((date_Read.f k bt190.1).bind fun bt192 => (if bt192.2 = 0 then (some bt192.1) else (some a2)))
theorem fresh_dated.mono : ∀ a0 a1 a2 k, LeO (fresh_dated.f k a0 a1 a2) (fresh_dated.f (k + 1) a0 a1 a2) := by
 intro a0 a1 a2 k
 unfold fresh_dated.f
 repeat' (with_reducible first | exact date_Read.mono _ _ | exact field_List_Get.mono _ _ _ | exact lR_ | refine LeO.ite ?_ ?_ | refine LeO.bind ?_ (fun _ => ?_))
set_option maxHeartbeats 8000000 in
set_option maxRecDepth 100000 in
theorem fresh_dated.calls (k : Nat) (A0 : Option Addr) (c0 : Nat) (l0 : List (S46)) (a1 : ByteArray) (a2 : Int) (r : Int) (w : World) (hr0 : Kd.C k46 w A0 l0.length l0) (hc0 : l0.length ≤ c0) (hrW : WF w) (h : fresh_dated.f k l0 a1 a2 = some r) :
  Calls Tryz.prog 38 #[.slice A0 l0.length c0, .string a1, .int .i64 a2] w fun e w' => e = .returned (.int .i64 r) ∧ Below w.heap.size w w' := by
 have HRW := Aside0.mk hrW
 clear hrW
 have HR0 := Aside0.mk hr0
 have HC0 := Aside0.mk hc0
 clear hr0 hc0
 have HB := Aside0.mk (Below.refl w.heap.size w)
 have H : ((field_List_Get.f k l0 a1).bind fun bt190 => ((date_Read.f k bt190.1).bind fun bt192 => (if bt192.2 = 0 then (some bt192.1) else (some a2)))) = some r := h
 clear h
 obtain ⟨⟨t190, t191⟩, A4, H⟩ := bS_ H
 try dsimp only at H
 obtain ⟨⟨t192, t193⟩, A5, H⟩ := bS_ H
 try dsimp only at H
 by_cases c6 : t193 = 0
 ·
  rw [if_pos c6] at H
  have c6b0 : (t193 == 0) = true := beq_iff_eq.mpr c6
  have c6b1 : (t193 != 0) = false := bne_eq_false_iff_eq.mpr c6
  clear c6
  obtain rfl := Option.some.inj H
  go_enter Tryz.func38, Tryz.ntmps38
  go_wp2_with (first | ((with_reducible refine gate_callee (f := 28) rfl ?_); refine goesL_ (some 14) rfl rfl Tryz.func28 (by kernel_rfl) rfl #[.slice A0 l0.length c0, .string a1] rfl T1_ ?_; (with_reducible refine (field_List_Get.calls k _ _ l0 a1 t190 t191 _ ?side1 ?side2 A4.out).mono ?_); (case side1 => exact C1_ (HR0.out)); (case side2 => exact HC0.out); rintro e w7 ⟨rfl, hb⟩; refine ⟨_, rfl, ?_⟩; replace HB := y1_ hb; (try clear hb)) | ((with_reducible refine gate_callee (f := 62) rfl ?_); refine goesL_ (some 19) rfl rfl Tryz.func62 (by kernel_rfl) rfl #[.string t190] rfl T1_ ?_; (with_reducible refine (date_Read.calls k t190 t192 t193 _ ?side1 A5.out).mono ?_); (case side1 => exact C1_ ((WF.below HRW.out HB.out))); rintro e w8 ⟨rfl, hb⟩; refine ⟨_, rfl, ?_⟩; replace HB := y1_ hb; (try clear hb)))
  go_ret
  exact ⟨E1_, W1_⟩
 ·
  rw [if_neg c6] at H
  have c6b0 : (t193 == 0) = false := beq_eq_false_iff_ne.mpr c6
  have c6b1 : (t193 != 0) = true := bne_iff_ne.mpr c6
  obtain rfl := Option.some.inj H
  go_enter Tryz.func38, Tryz.ntmps38
  go_wp2_with (first | ((with_reducible refine gate_callee (f := 28) rfl ?_); refine goesL_ (some 14) rfl rfl Tryz.func28 (by kernel_rfl) rfl #[.slice A0 l0.length c0, .string a1] rfl T1_ ?_; (with_reducible refine (field_List_Get.calls k _ _ l0 a1 t190 t191 _ ?side1 ?side2 A4.out).mono ?_); (case side1 => exact C1_ (HR0.out)); (case side2 => exact HC0.out); rintro e w9 ⟨rfl, hb⟩; refine ⟨_, rfl, ?_⟩; replace HB := y1_ hb; (try clear hb)) | ((with_reducible refine gate_callee (f := 62) rfl ?_); refine goesL_ (some 19) rfl rfl Tryz.func62 (by kernel_rfl) rfl #[.string t190] rfl T1_ ?_; (with_reducible refine (date_Read.calls k t190 t192 t193 _ ?side1 A5.out).mono ?_); (case side1 => exact C1_ ((WF.below HRW.out HB.out))); rintro e w10 ⟨rfl, hb⟩; refine ⟨_, rfl, ?_⟩; replace HB := y1_ hb; (try clear hb)))
  go_ret
  exact ⟨E1_, W1_⟩

/-! ### fresh_said: function 35 -/
def fresh_said.f (k : Nat) (l0 : List (S46)) (a1 : Int) : Option (Int) := (control_Of.f k l0).bind fun bt194 => ((fresh_dated.f k l0 (⟨#[68, 97, 116, 101]⟩ : ByteArray) a1).bind fun t205 => ((field_List_Get.f k l0 (⟨#[69, 120, 112, 105, 114, 101, 115]⟩ : ByteArray)).bind fun bt206 => (if bt194.2.2.2.2.2.2.2.1 ≥ 0 then (some bt194.2.2.2.2.2.2.2.1) else (if bt194.2.2.2.2.2.2.1 ≥ 0 then (some bt194.2.2.2.2.2.2.1) else (if bt206.2 = true then ((fresh_dated.f k l0 (⟨#[69, 120, 112, 105, 114, 101, 115]⟩ : ByteArray) 0).bind fun t208 => (some (mx (wrap64 (t208 - t205)) 0))) else ((fresh_dated.f k l0 (⟨#[76, 97, 115, 116, 45, 77, 111, 100, 105, 102, 105, 101, 100]⟩ : ByteArray) t205).bind fun t209 => (some (wrap64 ((mx (wrap64 (t205 - t209)) 0) / 10)))))))))
theorem fresh_said.mono : ∀ a0 a1 k, LeO (fresh_said.f k a0 a1) (fresh_said.f (k + 1) a0 a1) := by
 intro a0 a1 k
 unfold fresh_said.f
 repeat' (with_reducible first | exact control_Of.mono _ _ | exact field_List_Get.mono _ _ _ | exact fresh_dated.mono _ _ _ _ | exact lR_ | refine LeO.ite ?_ ?_ | refine LeO.bind ?_ (fun _ => ?_))
set_option maxHeartbeats 8000000 in
set_option maxRecDepth 100000 in
theorem fresh_said.calls (k : Nat) (A0 : Option Addr) (c0 : Nat) (l0 : List (S46)) (a1 : Int) (r : Int) (w : World) (hr0 : Kd.C k46 w A0 l0.length l0) (hc0 : l0.length ≤ c0) (hrW : WF w) (h : fresh_said.f k l0 a1 = some r) :
  Calls Tryz.prog 35 #[.slice A0 l0.length c0, .int .i64 a1] w fun e w' => e = .returned (.int .i64 r) ∧ Below w.heap.size w w' := by
 have hu57 := Tryz.underlying57
 have HRW := Aside0.mk hrW
 clear hrW
 have HR0 := Aside0.mk hr0
 have HC0 := Aside0.mk hc0
 clear hr0 hc0
 have HB := Aside0.mk (Below.refl w.heap.size w)
 have H : ((control_Of.f k l0).bind fun bt194 => ((fresh_dated.f k l0 (⟨#[68, 97, 116, 101]⟩ : ByteArray) a1).bind fun t205 => ((field_List_Get.f k l0 (⟨#[69, 120, 112, 105, 114, 101, 115]⟩ : ByteArray)).bind fun bt206 => (if bt194.2.2.2.2.2.2.2.1 ≥ 0 then (some bt194.2.2.2.2.2.2.2.1) else (if bt194.2.2.2.2.2.2.1 ≥ 0 then (some bt194.2.2.2.2.2.2.1) else (if bt206.2 = true then ((fresh_dated.f k l0 (⟨#[69, 120, 112, 105, 114, 101, 115]⟩ : ByteArray) 0).bind fun t208 => (some (mx (wrap64 (t208 - t205)) 0))) else ((fresh_dated.f k l0 (⟨#[76, 97, 115, 116, 45, 77, 111, 100, 105, 102, 105, 101, 100]⟩ : ByteArray) t205).bind fun t209 => (some (wrap64 ((mx (wrap64 (t205 - t209)) 0) / 10)))))))))) = some r := h
 clear h
 obtain ⟨⟨t194, t195, t196, t197, t198, t199, t200, t201, t202, t203⟩, A3, H⟩ := bS_ H
 try dsimp only at H
 obtain ⟨t205, A4, H⟩ := bS_ H
 try dsimp only at H
 obtain ⟨⟨t206, t207⟩, A5, H⟩ := bS_ H
 try dsimp only at H
 by_cases c6 : t201 ≥ 0
 ·
  rw [if_pos c6] at H
  have c6b0 : decide (0 ≤ t201) = true := decide_eq_true c6
  clear c6
  obtain rfl := Option.some.inj H
  go_enter Tryz.func35, Tryz.ntmps35
  go_wp2_with (first | ((with_reducible refine gate_callee (f := 27) rfl ?_); refine goesL_ (some 10) rfl rfl Tryz.func27 (by kernel_rfl) rfl #[.slice A0 l0.length c0] rfl T1_ ?_; (with_reducible refine (control_Of.calls k _ _ l0 t194 t195 t196 t197 t198 t199 t200 t201 t202 t203 _ ?side1 ?side2 A3.out).mono ?_); (case side1 => exact C1_ (HR0.out)); (case side2 => exact HC0.out); rintro e w7 ⟨rfl, hb⟩; refine ⟨_, rfl, ?_⟩; replace HB := y1_ hb; (try clear hb)) | ((with_reducible refine gate_dst (N := 5) rfl ?_); refine box_event ?hg (N := 5) ?hd (cs := #[.bool false, .bool false, .bool false, .bool false, .bool false, .bool false, .int .i64 0, .int .i64 0, .int .i64 0, .int .i64 0]) (t := 57) ?hr ?_; (case hd | hg => rfl); (case hr => exact S1_); intro gb204 hg w8 hbox hb; have BK204 := Aside0.mk (hbox); have GW204 := Aside0.mk ((Z1_ : w.heap.size ≤ gb204)); have GE204 := Aside0.mk ((Z1_ : w.heap.size ≤ gb204)); replace HB := y1_ hb; clear hb hbox hg; obtain ⟨z9_0, z9_1, z9_2, z9_3, z9_4, z9_5, z9_6, z9_7, z9_8, z9_9, y9_0, y9_1, y9_2, y9_3, y9_4, y9_5, y9_6, y9_7, y9_8, y9_9⟩ := cz10_ BK204.out) | ((with_reducible refine gate_callee (f := 38) rfl ?_); refine goesL_ (some 13) rfl rfl Tryz.func38 (by kernel_rfl) rfl #[.slice A0 l0.length c0, .string (⟨#[68, 97, 116, 101]⟩ : ByteArray), .int .i64 a1] rfl T1_ ?_; (with_reducible refine (fresh_dated.calls k _ _ l0 (⟨#[68, 97, 116, 101]⟩ : ByteArray) a1 t205 _ ?side1 ?side2 ?side3 A4.out).mono ?_); (case side1 => exact Kd.C_below HR0.out W2_); (case side2 => exact HC0.out); (case side3 => exact WF.below HRW.out W2_); rintro e w10 ⟨rfl, hb⟩; refine ⟨_, rfl, ?_⟩; replace BK204 := Aside0.mk (blk_below (g := gb204) (o := .cells #[.bool t194, .bool t195, .bool t196, .bool t197, .bool t198, .bool t199, .int .i64 t200, .int .i64 t201, .int .i64 t202, .int .i64 t203] 57 (0, 0)) (G1_ BK204.out) hb); replace HB := y2_ hb; (try clear hb)) | ((with_reducible refine gate_callee (f := 28) rfl ?_); refine goesL_ (some 16) rfl rfl Tryz.func28 (by kernel_rfl) rfl #[.slice A0 l0.length c0, .string (⟨#[69, 120, 112, 105, 114, 101, 115]⟩ : ByteArray)] rfl T1_ ?_; (with_reducible refine (field_List_Get.calls k _ _ l0 (⟨#[69, 120, 112, 105, 114, 101, 115]⟩ : ByteArray) t206 t207 _ ?side1 ?side2 A5.out).mono ?_); (case side1 => exact C1_ ((Kd.C_below HR0.out HB.out))); (case side2 => exact HC0.out); rintro e w11 ⟨rfl, hb⟩; refine ⟨_, rfl, ?_⟩; replace BK204 := yB_ BK204 hb; replace HB := y2_ hb; (try clear hb); obtain ⟨z12_0, z12_1, z12_2, z12_3, z12_4, z12_5, z12_6, z12_7, z12_8, z12_9, y12_0, y12_1, y12_2, y12_3, y12_4, y12_5, y12_6, y12_7, y12_8, y12_9⟩ := cz10_ BK204.out))
  go_ret
  exact ⟨E1_, W2_⟩
 ·
  rw [if_neg c6] at H
  have c6b0 : decide (0 ≤ t201) = false := decide_eq_false c6
  clear c6
  by_cases c13 : t200 ≥ 0
  ·
   rw [if_pos c13] at H
   have c13b0 : decide (0 ≤ t200) = true := decide_eq_true c13
   clear c13
   obtain rfl := Option.some.inj H
   go_enter Tryz.func35, Tryz.ntmps35
   go_wp2_with (first | ((with_reducible refine gate_callee (f := 27) rfl ?_); refine goesL_ (some 10) rfl rfl Tryz.func27 (by kernel_rfl) rfl #[.slice A0 l0.length c0] rfl T1_ ?_; (with_reducible refine (control_Of.calls k _ _ l0 t194 t195 t196 t197 t198 t199 t200 t201 t202 t203 _ ?side1 ?side2 A3.out).mono ?_); (case side1 => exact C1_ (HR0.out)); (case side2 => exact HC0.out); rintro e w14 ⟨rfl, hb⟩; refine ⟨_, rfl, ?_⟩; replace HB := y1_ hb; (try clear hb)) | ((with_reducible refine gate_dst (N := 5) rfl ?_); refine box_event ?hg (N := 5) ?hd (cs := #[.bool false, .bool false, .bool false, .bool false, .bool false, .bool false, .int .i64 0, .int .i64 0, .int .i64 0, .int .i64 0]) (t := 57) ?hr ?_; (case hd | hg => rfl); (case hr => exact S1_); intro gb204 hg w15 hbox hb; have BK204 := Aside0.mk (hbox); have GW204 := Aside0.mk ((Z1_ : w.heap.size ≤ gb204)); have GE204 := Aside0.mk ((Z1_ : w.heap.size ≤ gb204)); replace HB := y1_ hb; clear hb hbox hg; obtain ⟨z16_0, z16_1, z16_2, z16_3, z16_4, z16_5, z16_6, z16_7, z16_8, z16_9, y16_0, y16_1, y16_2, y16_3, y16_4, y16_5, y16_6, y16_7, y16_8, y16_9⟩ := cz10_ BK204.out) | ((with_reducible refine gate_callee (f := 38) rfl ?_); refine goesL_ (some 13) rfl rfl Tryz.func38 (by kernel_rfl) rfl #[.slice A0 l0.length c0, .string (⟨#[68, 97, 116, 101]⟩ : ByteArray), .int .i64 a1] rfl T1_ ?_; (with_reducible refine (fresh_dated.calls k _ _ l0 (⟨#[68, 97, 116, 101]⟩ : ByteArray) a1 t205 _ ?side1 ?side2 ?side3 A4.out).mono ?_); (case side1 => exact Kd.C_below HR0.out W2_); (case side2 => exact HC0.out); (case side3 => exact WF.below HRW.out W2_); rintro e w17 ⟨rfl, hb⟩; refine ⟨_, rfl, ?_⟩; replace BK204 := Aside0.mk (blk_below (g := gb204) (o := .cells #[.bool t194, .bool t195, .bool t196, .bool t197, .bool t198, .bool t199, .int .i64 t200, .int .i64 t201, .int .i64 t202, .int .i64 t203] 57 (0, 0)) (G1_ BK204.out) hb); replace HB := y2_ hb; (try clear hb)) | ((with_reducible refine gate_callee (f := 28) rfl ?_); refine goesL_ (some 16) rfl rfl Tryz.func28 (by kernel_rfl) rfl #[.slice A0 l0.length c0, .string (⟨#[69, 120, 112, 105, 114, 101, 115]⟩ : ByteArray)] rfl T1_ ?_; (with_reducible refine (field_List_Get.calls k _ _ l0 (⟨#[69, 120, 112, 105, 114, 101, 115]⟩ : ByteArray) t206 t207 _ ?side1 ?side2 A5.out).mono ?_); (case side1 => exact C1_ ((Kd.C_below HR0.out HB.out))); (case side2 => exact HC0.out); rintro e w18 ⟨rfl, hb⟩; refine ⟨_, rfl, ?_⟩; replace BK204 := yB_ BK204 hb; replace HB := y2_ hb; (try clear hb); obtain ⟨z19_0, z19_1, z19_2, z19_3, z19_4, z19_5, z19_6, z19_7, z19_8, z19_9, y19_0, y19_1, y19_2, y19_3, y19_4, y19_5, y19_6, y19_7, y19_8, y19_9⟩ := cz10_ BK204.out))
   go_ret
   exact ⟨E1_, W2_⟩
  ·
   rw [if_neg c13] at H
   have c13b0 : decide (0 ≤ t200) = false := decide_eq_false c13
   clear c13
   by_cases c20 : t207 = true
   ·
    subst c20
    rw [if_pos rfl] at H
    obtain ⟨t208, A21, H⟩ := bS_ H
    try dsimp only at H
    obtain ⟨ji22, hji22⟩ : ∃ j_ : Int, (mx (wrap64 (t208 - t205)) 0) = j_ := ⟨_, rfl⟩
    replace H : (some ji22) = some r := by first | (rw [hji22] at H; exact H) | (simp only [hji22] at H ⊢; exact H)
    (try rw [hji22] at A3)
    (try rw [hji22] at A4)
    (try rw [hji22] at A5)
    (try rw [hji22] at A21)
    (try (have hji22l : 0 ≤ ji22 := by (rw [← hji22]; unfold mx; (repeat' split) <;> omega)))
    (try (have hji22m : 0 ≤ ji22 := by omega))
    have hji22_ : (if (wrap64 (t208 - t205)) < 0 then 0 else (wrap64 (t208 - t205))) = ji22 := hji22
    obtain rfl := Option.some.inj H
    go_enter Tryz.func35, Tryz.ntmps35
    go_wp2_with (first | ((with_reducible refine gate_callee (f := 27) rfl ?_); refine goesL_ (some 10) rfl rfl Tryz.func27 (by kernel_rfl) rfl #[.slice A0 l0.length c0] rfl T1_ ?_; (with_reducible refine (control_Of.calls k _ _ l0 t194 t195 t196 t197 t198 t199 t200 t201 t202 t203 _ ?side1 ?side2 A3.out).mono ?_); (case side1 => exact C1_ (HR0.out)); (case side2 => exact HC0.out); rintro e w23 ⟨rfl, hb⟩; refine ⟨_, rfl, ?_⟩; replace HB := y1_ hb; (try clear hb)) | ((with_reducible refine gate_dst (N := 5) rfl ?_); refine box_event ?hg (N := 5) ?hd (cs := #[.bool false, .bool false, .bool false, .bool false, .bool false, .bool false, .int .i64 0, .int .i64 0, .int .i64 0, .int .i64 0]) (t := 57) ?hr ?_; (case hd | hg => rfl); (case hr => exact S1_); intro gb204 hg w24 hbox hb; have BK204 := Aside0.mk (hbox); have GW204 := Aside0.mk ((Z1_ : w.heap.size ≤ gb204)); have GE204 := Aside0.mk ((Z1_ : w.heap.size ≤ gb204)); replace HB := y1_ hb; clear hb hbox hg; obtain ⟨z25_0, z25_1, z25_2, z25_3, z25_4, z25_5, z25_6, z25_7, z25_8, z25_9, y25_0, y25_1, y25_2, y25_3, y25_4, y25_5, y25_6, y25_7, y25_8, y25_9⟩ := cz10_ BK204.out) | ((with_reducible refine gate_callee (f := 38) rfl ?_); refine goesL_ (some 13) rfl rfl Tryz.func38 (by kernel_rfl) rfl #[.slice A0 l0.length c0, .string (⟨#[68, 97, 116, 101]⟩ : ByteArray), .int .i64 a1] rfl T1_ ?_; (with_reducible refine (fresh_dated.calls k _ _ l0 (⟨#[68, 97, 116, 101]⟩ : ByteArray) a1 t205 _ ?side1 ?side2 ?side3 A4.out).mono ?_); (case side1 => exact Kd.C_below HR0.out W2_); (case side2 => exact HC0.out); (case side3 => exact WF.below HRW.out W2_); rintro e w26 ⟨rfl, hb⟩; refine ⟨_, rfl, ?_⟩; replace BK204 := Aside0.mk (blk_below (g := gb204) (o := .cells #[.bool t194, .bool t195, .bool t196, .bool t197, .bool t198, .bool t199, .int .i64 t200, .int .i64 t201, .int .i64 t202, .int .i64 t203] 57 (0, 0)) (G1_ BK204.out) hb); replace HB := y2_ hb; (try clear hb)) | ((with_reducible refine gate_callee (f := 28) rfl ?_); refine goesL_ (some 16) rfl rfl Tryz.func28 (by kernel_rfl) rfl #[.slice A0 l0.length c0, .string (⟨#[69, 120, 112, 105, 114, 101, 115]⟩ : ByteArray)] rfl T1_ ?_; (with_reducible refine (field_List_Get.calls k _ _ l0 (⟨#[69, 120, 112, 105, 114, 101, 115]⟩ : ByteArray) t206 true _ ?side1 ?side2 A5.out).mono ?_); (case side1 => exact C1_ ((Kd.C_below HR0.out HB.out))); (case side2 => exact HC0.out); rintro e w27 ⟨rfl, hb⟩; refine ⟨_, rfl, ?_⟩; replace BK204 := yB_ BK204 hb; replace HB := y2_ hb; (try clear hb); obtain ⟨z28_0, z28_1, z28_2, z28_3, z28_4, z28_5, z28_6, z28_7, z28_8, z28_9, y28_0, y28_1, y28_2, y28_3, y28_4, y28_5, y28_6, y28_7, y28_8, y28_9⟩ := cz10_ BK204.out) | ((with_reducible refine gate_callee (f := 38) rfl ?_); refine goesL_ (some 34) rfl rfl Tryz.func38 (by kernel_rfl) rfl #[.slice A0 l0.length c0, .string (⟨#[69, 120, 112, 105, 114, 101, 115]⟩ : ByteArray), .int .i64 0] rfl T1_ ?_; (with_reducible refine (fresh_dated.calls k _ _ l0 (⟨#[69, 120, 112, 105, 114, 101, 115]⟩ : ByteArray) 0 t208 _ ?side1 ?side2 ?side3 A21.out).mono ?_); (case side1 => exact C1_ ((Kd.C_below HR0.out HB.out))); (case side2 => exact HC0.out); (case side3 => exact C1_ ((WF.below HRW.out HB.out))); rintro e w29 ⟨rfl, hb⟩; refine ⟨_, rfl, ?_⟩; replace BK204 := yB_ BK204 hb; replace HB := y2_ hb; (try clear hb)))
    go_ret
    exact ⟨by first | rfl | (rw [Int.tdiv_eq_ediv_of_nonneg (by assumption)]; rfl) | (simp [errW_none, errW_some] <;> rfl) | (simp only [← hji22]; first | rfl | (simp [errW_none, errW_some] <;> rfl)) | (simp [*, errW_none, errW_some] <;> rfl), W2_⟩
   ·
    replace c20 := Bool.eq_false_iff.mpr c20
    subst c20
    rw [if_neg (show ¬ (false = true) by decide)] at H
    obtain ⟨t209, A30, H⟩ := bS_ H
    try dsimp only at H
    obtain ⟨ji31, hji31⟩ : ∃ j_ : Int, (mx (wrap64 (t205 - t209)) 0) = j_ := ⟨_, rfl⟩
    replace H : (some (wrap64 ((ji31) / 10))) = some r := by first | (rw [hji31] at H; exact H) | (simp only [hji31] at H ⊢; exact H)
    (try rw [hji31] at A3)
    (try rw [hji31] at A4)
    (try rw [hji31] at A5)
    (try rw [hji31] at A30)
    (try (have hji31l : 0 ≤ ji31 := by (rw [← hji31]; unfold mx; (repeat' split) <;> omega)))
    (try (have hji31m : 0 ≤ ji31 := by omega))
    have hji31_ : (if (wrap64 (t205 - t209)) < 0 then 0 else (wrap64 (t205 - t209))) = ji31 := hji31
    obtain rfl := Option.some.inj H
    go_enter Tryz.func35, Tryz.ntmps35
    go_wp2_with (first | ((with_reducible refine gate_callee (f := 27) rfl ?_); refine goesL_ (some 10) rfl rfl Tryz.func27 (by kernel_rfl) rfl #[.slice A0 l0.length c0] rfl T1_ ?_; (with_reducible refine (control_Of.calls k _ _ l0 t194 t195 t196 t197 t198 t199 t200 t201 t202 t203 _ ?side1 ?side2 A3.out).mono ?_); (case side1 => exact C1_ (HR0.out)); (case side2 => exact HC0.out); rintro e w32 ⟨rfl, hb⟩; refine ⟨_, rfl, ?_⟩; replace HB := y1_ hb; (try clear hb)) | ((with_reducible refine gate_dst (N := 5) rfl ?_); refine box_event ?hg (N := 5) ?hd (cs := #[.bool false, .bool false, .bool false, .bool false, .bool false, .bool false, .int .i64 0, .int .i64 0, .int .i64 0, .int .i64 0]) (t := 57) ?hr ?_; (case hd | hg => rfl); (case hr => exact S1_); intro gb204 hg w33 hbox hb; have BK204 := Aside0.mk (hbox); have GW204 := Aside0.mk ((Z1_ : w.heap.size ≤ gb204)); have GE204 := Aside0.mk ((Z1_ : w.heap.size ≤ gb204)); replace HB := y1_ hb; clear hb hbox hg; obtain ⟨z34_0, z34_1, z34_2, z34_3, z34_4, z34_5, z34_6, z34_7, z34_8, z34_9, y34_0, y34_1, y34_2, y34_3, y34_4, y34_5, y34_6, y34_7, y34_8, y34_9⟩ := cz10_ BK204.out) | ((with_reducible refine gate_callee (f := 38) rfl ?_); refine goesL_ (some 13) rfl rfl Tryz.func38 (by kernel_rfl) rfl #[.slice A0 l0.length c0, .string (⟨#[68, 97, 116, 101]⟩ : ByteArray), .int .i64 a1] rfl T1_ ?_; (with_reducible refine (fresh_dated.calls k _ _ l0 (⟨#[68, 97, 116, 101]⟩ : ByteArray) a1 t205 _ ?side1 ?side2 ?side3 A4.out).mono ?_); (case side1 => exact Kd.C_below HR0.out W2_); (case side2 => exact HC0.out); (case side3 => exact WF.below HRW.out W2_); rintro e w35 ⟨rfl, hb⟩; refine ⟨_, rfl, ?_⟩; replace BK204 := Aside0.mk (blk_below (g := gb204) (o := .cells #[.bool t194, .bool t195, .bool t196, .bool t197, .bool t198, .bool t199, .int .i64 t200, .int .i64 t201, .int .i64 t202, .int .i64 t203] 57 (0, 0)) (G1_ BK204.out) hb); replace HB := y2_ hb; (try clear hb)) | ((with_reducible refine gate_callee (f := 28) rfl ?_); refine goesL_ (some 16) rfl rfl Tryz.func28 (by kernel_rfl) rfl #[.slice A0 l0.length c0, .string (⟨#[69, 120, 112, 105, 114, 101, 115]⟩ : ByteArray)] rfl T1_ ?_; (with_reducible refine (field_List_Get.calls k _ _ l0 (⟨#[69, 120, 112, 105, 114, 101, 115]⟩ : ByteArray) t206 false _ ?side1 ?side2 A5.out).mono ?_); (case side1 => exact C1_ ((Kd.C_below HR0.out HB.out))); (case side2 => exact HC0.out); rintro e w36 ⟨rfl, hb⟩; refine ⟨_, rfl, ?_⟩; replace BK204 := yB_ BK204 hb; replace HB := y2_ hb; (try clear hb); obtain ⟨z37_0, z37_1, z37_2, z37_3, z37_4, z37_5, z37_6, z37_7, z37_8, z37_9, y37_0, y37_1, y37_2, y37_3, y37_4, y37_5, y37_6, y37_7, y37_8, y37_9⟩ := cz10_ BK204.out) | ((with_reducible refine gate_callee (f := 38) rfl ?_); refine goesL_ (some 41) rfl rfl Tryz.func38 (by kernel_rfl) rfl #[.slice A0 l0.length c0, .string (⟨#[76, 97, 115, 116, 45, 77, 111, 100, 105, 102, 105, 101, 100]⟩ : ByteArray), .int .i64 t205] rfl T1_ ?_; (with_reducible refine (fresh_dated.calls k _ _ l0 (⟨#[76, 97, 115, 116, 45, 77, 111, 100, 105, 102, 105, 101, 100]⟩ : ByteArray) t205 t209 _ ?side1 ?side2 ?side3 A30.out).mono ?_); (case side1 => exact C1_ ((Kd.C_below HR0.out HB.out))); (case side2 => exact HC0.out); (case side3 => exact C1_ ((WF.below HRW.out HB.out))); rintro e w38 ⟨rfl, hb⟩; refine ⟨_, rfl, ?_⟩; replace BK204 := yB_ BK204 hb; replace HB := y2_ hb; (try clear hb)))
    go_ret
    exact ⟨by first | rfl | (rw [Int.tdiv_eq_ediv_of_nonneg (by assumption)]; rfl) | (simp [errW_none, errW_some] <;> rfl) | (simp only [← hji31]; first | rfl | (simp [errW_none, errW_some] <;> rfl)) | (simp [*, errW_none, errW_some] <;> rfl), W2_⟩

end Go.Proofs.YtgpekljckdgggaaGreatDoor.PAll
