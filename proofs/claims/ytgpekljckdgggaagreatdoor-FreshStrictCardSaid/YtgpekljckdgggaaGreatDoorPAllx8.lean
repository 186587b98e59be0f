-- Text by a program of this session, over what print.py prints.
import Derived.Test.YtgpekljckdgggaaGreatDoorPAllx0
import Derived.Test.YtgpekljckdgggaaGreatDoorPAllx1
import Derived.Test.YtgpekljckdgggaaGreatDoorPAllx4
import Derived.Test.YtgpekljckdgggaaGreatDoorPAllx6
import Derived.Test.YtgpekljckdgggaaGreatDoorPAllx7
namespace Go.Proofs.YtgpekljckdgggaaGreatDoor.PAll
open Go.RowKit Go.Proofs.YtgpekljckdgggaaGreatDoorW.PrintWords Go.Proofs.YtgpekljckdgggaaGreatDoorW.PrintLast Go.Proofs.YtgpekljckdgggaaGreatDoorW.PrintMore
attribute [local go_sem] max2_int min2_int max_two min_two max_three min_three max_four min_four   -- for this text's walks alone
set_option linter.unusedVariables false
set_option linter.unusedSimpArgs false

/-! ### date_Read: function 62 -/
mutual
def date_Read.j0 : Nat → ByteArray → Int → Int → Int → Int → Int → Int → Bool → Option (Int × Int)
 | 0, _, _, _, _, _, _, _, _ => none
 | k + 1, x0, x4, x5, x6, x7, x8, x9, x79 => if x79 = true then (some (0, 14)) else ((date_before.f x5).bind fun t186 => (date_Read.l0 k x0 x4 x5 x7 x8 x9 (wrap64 ((wrap64 (t186 + x6)) - 1)) 1))
def date_Read.l0 : Nat → ByteArray → Int → Int → Int → Int → Int → Int → Int → Option (Int × Int)
 | 0, _, _, _, _, _, _, _, _ => none
 | k + 1, x0, x4, x5, x7, x8, x9, x10, x11 => if x11 ≤ (wrap64 (Int.tdiv x4 3)) then ((date_Days.f k x5 x11).bind fun t187 => (date_Read.l0 k x0 x4 x5 x7 x8 x9 (wrap64 (x10 + t187)) (wrap64 (x11 + 1)))) else ((date_Show.f k (wrap64 ((wrap64 ((wrap64 ((wrap64 (x10 * 86400)) + (wrap64 (x7 * 3600)))) + (wrap64 (x8 * 60)))) + x9))).bind fun bt188 => (if bt188.1.toList = x0.toList then (some (wrap64 ((wrap64 ((wrap64 ((wrap64 (x10 * 86400)) + (wrap64 (x7 * 3600)))) + (wrap64 (x8 * 60)))) + x9), 0)) else (some (0, 14))))
end
def date_Read.f (k : Nat) (a0 : ByteArray) : Option (Int × Int) := if (a0.size : Int) = 29 then (if 8 ≤ 11 then (if 11 ≤ (a0.size : Int) then ((strings_Index.f (⟨#[74, 97, 110, 70, 101, 98, 77, 97, 114, 65, 112, 114, 77, 97, 121, 74, 117, 110, 74, 117, 108, 65, 117, 103, 83, 101, 112, 79, 99, 116, 78, 111, 118, 68, 101, 99]⟩ : ByteArray) (a0.extract 8 11)).bind fun t179 => (if 12 ≤ 16 then (if 16 ≤ (a0.size : Int) then ((date_digits.f k (a0.extract 12 16)).bind fun t180 => (if 5 ≤ 7 then (if 7 ≤ (a0.size : Int) then ((date_digits.f k (a0.extract 5 7)).bind fun t181 => (if 17 ≤ 19 then (if 19 ≤ (a0.size : Int) then ((date_digits.f k (a0.extract 17 19)).bind fun t182 => (if 20 ≤ 22 then (if 22 ≤ (a0.size : Int) then ((date_digits.f k (a0.extract 20 22)).bind fun t183 => (if 23 ≤ 25 then (if 25 ≤ (a0.size : Int) then ((date_digits.f k (a0.extract 23 25)).bind fun t184 => (if t179 < 0 then (date_Read.j0 k a0 t179 t180 t181 t182 t183 t184 true) else (if (Int.tmod t179 3) = 0 then (if t181 < 1 then (date_Read.j0 k a0 t179 t180 t181 t182 t183 t184 true) else ((date_Days.f k t180 (wrap64 ((wrap64 (Int.tdiv t179 3)) + 1))).bind fun t185 => (if t181 > t185 then (date_Read.j0 k a0 t179 t180 t181 t182 t183 t184 true) else (if t182 < 0 then (date_Read.j0 k a0 t179 t180 t181 t182 t183 t184 true) else (if t182 > 23 then (date_Read.j0 k a0 t179 t180 t181 t182 t183 t184 true) else (if t183 < 0 then (date_Read.j0 k a0 t179 t180 t181 t182 t183 t184 true) else (if t183 > 59 then (date_Read.j0 k a0 t179 t180 t181 t182 t183 t184 true) else (if t184 < 0 then (date_Read.j0 k a0 t179 t180 t181 t182 t183 t184 true) else (date_Read.j0 k a0 t179 t180 t181 t182 t183 t184 (decide (t184 > 59))))))))))) else (date_Read.j0 k a0 t179 t180 t181 t182 t183 t184 true)))) else (none)) else (none))) else (none)) else (none))) else (none)) else (none))) else (none)) else (none))) else (none)) else (none))) else (none)) else (none)) else (some (0, 14))
theorem date_Read.mono_l : ∀ k, (∀ y0 y1 y2 y3 y4 y5 y6 y7, LeO (date_Read.j0 k y0 y1 y2 y3 y4 y5 y6 y7) (date_Read.j0 (k + 1) y0 y1 y2 y3 y4 y5 y6 y7)) ∧ (∀ y0 y1 y2 y3 y4 y5 y6 y7, LeO (date_Read.l0 k y0 y1 y2 y3 y4 y5 y6 y7) (date_Read.l0 (k + 1) y0 y1 y2 y3 y4 y5 y6 y7))
 | 0 => ⟨fun _ _ _ _ _ _ _ _ r h => by simp [date_Read.j0] at h, fun _ _ _ _ _ _ _ _ r h => by simp [date_Read.l0] at h⟩
 | k + 1 => by
  obtain ⟨ih0, ih1⟩ := date_Read.mono_l k
  refine ⟨?_, ?_⟩
  ·
   intro y0 y1 y2 y3 y4 y5 y6 y7
   unfold date_Read.j0
   repeat' first
   | (with_reducible exact ih0 _ _ _ _ _ _ _ _)
   | (with_reducible exact ih1 _ _ _ _ _ _ _ _)
   | (with_reducible exact date_Days.mono _ _ _)
   | (with_reducible exact date_Show.mono _ _)
   | (with_reducible exact date_digits.mono _ _)
   | (with_reducible exact LeO.refl _)
   | (with_reducible exact LeO.none _)
   | (with_reducible refine LeO.ite ?_ ?_)
   | (with_reducible refine LeO.bind ?_ (fun _ => ?_))
   | exact ih0 _ _ _ _ _ _ _ _
   | exact ih1 _ _ _ _ _ _ _ _
   | exact date_Days.mono _ _ _
   | exact date_Show.mono _ _
   | exact date_digits.mono _ _
   | exact LeO.none _
   | refine LeO.ite ?_ ?_
   | refine LeO.bind ?_ (fun _ => ?_)
  ·
   intro y0 y1 y2 y3 y4 y5 y6 y7
   unfold date_Read.l0
   repeat' first
   | (with_reducible exact ih0 _ _ _ _ _ _ _ _)
   | (with_reducible exact ih1 _ _ _ _ _ _ _ _)
   | (with_reducible exact date_Days.mono _ _ _)
   | (with_reducible exact date_Show.mono _ _)
   | (with_reducible exact date_digits.mono _ _)
   | (with_reducible exact LeO.refl _)
   | (with_reducible exact LeO.none _)
   | (with_reducible refine LeO.ite ?_ ?_)
   | (with_reducible refine LeO.bind ?_ (fun _ => ?_))
   | exact ih0 _ _ _ _ _ _ _ _
   | exact ih1 _ _ _ _ _ _ _ _
   | exact date_Days.mono _ _ _
   | exact date_Show.mono _ _
   | exact date_digits.mono _ _
   | exact LeO.none _
   | refine LeO.ite ?_ ?_
   | refine LeO.bind ?_ (fun _ => ?_)
theorem date_Read.mono : ∀ a0 k, LeO (date_Read.f k a0) (date_Read.f (k + 1) a0) := by
 intro a0 k
 obtain ⟨ih0, ih1⟩ := date_Read.mono_l k
 unfold date_Read.f
 repeat' first
   | (with_reducible exact ih0 _ _ _ _ _ _ _ _)
   | (with_reducible exact ih1 _ _ _ _ _ _ _ _)
   | (with_reducible exact date_Days.mono _ _ _)
   | (with_reducible exact date_Show.mono _ _)
   | (with_reducible exact date_digits.mono _ _)
   | (with_reducible exact LeO.refl _)
   | (with_reducible exact LeO.none _)
   | (with_reducible refine LeO.ite ?_ ?_)
   | (with_reducible refine LeO.bind ?_ (fun _ => ?_))
   | exact ih0 _ _ _ _ _ _ _ _
   | exact ih1 _ _ _ _ _ _ _ _
   | exact date_Days.mono _ _ _
   | exact date_Show.mono _ _
   | exact date_digits.mono _ _
   | exact LeO.none _
   | refine LeO.ite ?_ ?_
   | refine LeO.bind ?_ (fun _ => ?_)
set_option maxHeartbeats 8000000 in
set_option maxRecDepth 100000 in
theorem date_Read.calls (k : Nat) (a0 : ByteArray) (r1 : Int) (r2 : Int) (w : World) (hrW : WF w) (h : date_Read.f k a0 = some (r1, r2)) :
  Calls Tryz.prog 62 #[.string a0] w fun e w' => e = .returned (.tuple #[.int .i64 r1, .int .i64 r2]) ∧ Below w.heap.size w w' := by
 have HRW := Aside0.mk hrW
 clear hrW
 have HB := Aside0.mk (Below.refl w.heap.size w)
 have H : (if (a0.size : Int) = 29 then (if 8 ≤ 11 then (if 11 ≤ (a0.size : Int) then ((strings_Index.f (⟨#[74, 97, 110, 70, 101, 98, 77, 97, 114, 65, 112, 114, 77, 97, 121, 74, 117, 110, 74, 117, 108, 65, 117, 103, 83, 101, 112, 79, 99, 116, 78, 111, 118, 68, 101, 99]⟩ : ByteArray) (a0.extract 8 11)).bind fun t179 => (if 12 ≤ 16 then (if 16 ≤ (a0.size : Int) then ((date_digits.f k (a0.extract 12 16)).bind fun t180 => (if 5 ≤ 7 then (if 7 ≤ (a0.size : Int) then ((date_digits.f k (a0.extract 5 7)).bind fun t181 => (if 17 ≤ 19 then (if 19 ≤ (a0.size : Int) then ((date_digits.f k (a0.extract 17 19)).bind fun t182 => (if 20 ≤ 22 then (if 22 ≤ (a0.size : Int) then ((date_digits.f k (a0.extract 20 22)).bind fun t183 => (if 23 ≤ 25 then (if 25 ≤ (a0.size : Int) then ((date_digits.f k (a0.extract 23 25)).bind fun t184 => (if t179 < 0 then (date_Read.j0 k a0 t179 t180 t181 t182 t183 t184 true) else (if (Int.tmod t179 3) = 0 then (if t181 < 1 then (date_Read.j0 k a0 t179 t180 t181 t182 t183 t184 true) else ((date_Days.f k t180 (wrap64 ((wrap64 (Int.tdiv t179 3)) + 1))).bind fun t185 => (if t181 > t185 then (date_Read.j0 k a0 t179 t180 t181 t182 t183 t184 true) else (if t182 < 0 then (date_Read.j0 k a0 t179 t180 t181 t182 t183 t184 true) else (if t182 > 23 then (date_Read.j0 k a0 t179 t180 t181 t182 t183 t184 true) else (if t183 < 0 then (date_Read.j0 k a0 t179 t180 t181 t182 t183 t184 true) else (if t183 > 59 then (date_Read.j0 k a0 t179 t180 t181 t182 t183 t184 true) else (if t184 < 0 then (date_Read.j0 k a0 t179 t180 t181 t182 t183 t184 true) else (date_Read.j0 k a0 t179 t180 t181 t182 t183 t184 (decide (t184 > 59))))))))))) else (date_Read.j0 k a0 t179 t180 t181 t182 t183 t184 true)))) else (none)) else (none))) else (none)) else (none))) else (none)) else (none))) else (none)) else (none))) else (none)) else (none))) else (none)) else (none)) else (some (0, 14))) = some (r1, r2) := h
 clear h
 by_cases c2 : (a0.size : Int) = 29
 ·
  rw [if_pos c2] at H
  have c2b0 : ((a0.size : Int) == 29) = true := beq_iff_eq.mpr c2
  have c2b1 : ((a0.size : Int) != 29) = false := bne_eq_false_iff_eq.mpr c2
  clear c2
  by_cases c3 : 8 ≤ 11
  ·
   rw [if_pos c3] at H
   have c3b0 := eq_true c3
   have c3b1 : decide (8 ≤ 11) = true := decide_eq_true c3
   clear c3
   by_cases c4 : 11 ≤ (a0.size : Int)
   ·
    rw [if_pos c4] at H
    have c4b0 := eq_true c4
    have c4b1 : decide (11 ≤ (a0.size : Int)) = true := decide_eq_true c4
    clear c4
    replace H := Option.bind_eq_some_iff.mp H
    obtain ⟨t179, A50, H⟩ := H
    have A5 := Aside0.mk A50
    clear A50
    by_cases c6 : 12 ≤ 16
    ·
     rw [if_pos c6] at H
     have c6b0 := eq_true c6
     have c6b1 : decide (12 ≤ 16) = true := decide_eq_true c6
     clear c6
     by_cases c7 : 16 ≤ (a0.size : Int)
     ·
      rw [if_pos c7] at H
      have c7b0 := eq_true c7
      have c7b1 : decide (16 ≤ (a0.size : Int)) = true := decide_eq_true c7
      clear c7
      replace H := Option.bind_eq_some_iff.mp H
      obtain ⟨t180, A80, H⟩ := H
      have A8 := Aside0.mk A80
      clear A80
      by_cases c9 : 5 ≤ 7
      ·
       rw [if_pos c9] at H
       have c9b0 := eq_true c9
       have c9b1 : decide (5 ≤ 7) = true := decide_eq_true c9
       clear c9
       by_cases c10 : 7 ≤ (a0.size : Int)
       ·
        rw [if_pos c10] at H
        have c10b0 := eq_true c10
        have c10b1 : decide (7 ≤ (a0.size : Int)) = true := decide_eq_true c10
        clear c10
        replace H := Option.bind_eq_some_iff.mp H
        obtain ⟨t181, A110, H⟩ := H
        have A11 := Aside0.mk A110
        clear A110
        by_cases c12 : 17 ≤ 19
        ·
         rw [if_pos c12] at H
         have c12b0 := eq_true c12
         have c12b1 : decide (17 ≤ 19) = true := decide_eq_true c12
         clear c12
         by_cases c13 : 19 ≤ (a0.size : Int)
         ·
          rw [if_pos c13] at H
          have c13b0 := eq_true c13
          have c13b1 : decide (19 ≤ (a0.size : Int)) = true := decide_eq_true c13
          clear c13
          replace H := Option.bind_eq_some_iff.mp H
          obtain ⟨t182, A140, H⟩ := H
          have A14 := Aside0.mk A140
          clear A140
          by_cases c15 : 20 ≤ 22
          ·
           rw [if_pos c15] at H
           have c15b0 := eq_true c15
           have c15b1 : decide (20 ≤ 22) = true := decide_eq_true c15
           clear c15
           by_cases c16 : 22 ≤ (a0.size : Int)
           ·
            rw [if_pos c16] at H
            have c16b0 := eq_true c16
            have c16b1 : decide (22 ≤ (a0.size : Int)) = true := decide_eq_true c16
            clear c16
            replace H := Option.bind_eq_some_iff.mp H
            obtain ⟨t183, A170, H⟩ := H
            have A17 := Aside0.mk A170
            clear A170
            by_cases c18 : 23 ≤ 25
            ·
             rw [if_pos c18] at H
             have c18b0 := eq_true c18
             have c18b1 : decide (23 ≤ 25) = true := decide_eq_true c18
             clear c18
             by_cases c19 : 25 ≤ (a0.size : Int)
             ·
              rw [if_pos c19] at H
              have c19b0 := eq_true c19
              have c19b1 : decide (25 ≤ (a0.size : Int)) = true := decide_eq_true c19
              clear c19
              replace H := Option.bind_eq_some_iff.mp H
              obtain ⟨t184, A200, H⟩ := H
              have A20 := Aside0.mk A200
              clear A200
              have HC21 := Aside0.mk H
              clear H
              go_enter Tryz.func62, Tryz.ntmps62
              go_upto_region 6 with (first | (go_at_call 82; (with_reducible refine (strings_Index.calls (⟨#[74, 97, 110, 70, 101, 98, 77, 97, 114, 65, 112, 114, 77, 97, 121, 74, 117, 110, 74, 117, 108, 65, 117, 103, 83, 101, 112, 79, 99, 116, 78, 111, 118, 68, 101, 99]⟩ : ByteArray) (a0.extract 8 11) t179 _ ?side1 A5.out).mono ?_); (case side1 => repeat (first | exact HRW.out | (with_reducible refine Kd.C_alloc ?_ _) | (with_reducible refine Kd.C_drewN ?_ _) | (with_reducible refine Kd.C_drew ?_))); rintro e w' ⟨rfl, ⟨nd, rfl⟩⟩; (try first | exact ⟨rfl, _, World.drewN_drewN _ _ _⟩ | exact ⟨rfl, _, Eq.trans (World.drewN_drewN _ _ _) (congrArg (World.drewN _) (Nat.add_assoc _ _ _))⟩)) | (go_at_call 83; (with_reducible refine (date_digits.calls k (a0.extract 12 16) t180 _ A8.out).mono ?_); rintro e w' ⟨rfl, ⟨nd, rfl⟩⟩; (try first | exact ⟨rfl, _, World.drewN_drewN _ _ _⟩ | exact ⟨rfl, _, Eq.trans (World.drewN_drewN _ _ _) (congrArg (World.drewN _) (Nat.add_assoc _ _ _))⟩)) | (go_at_call 83; (with_reducible refine (date_digits.calls k (a0.extract 5 7) t181 _ A11.out).mono ?_); rintro e w' ⟨rfl, ⟨nd, rfl⟩⟩; (try first | exact ⟨rfl, _, World.drewN_drewN _ _ _⟩ | exact ⟨rfl, _, Eq.trans (World.drewN_drewN _ _ _) (congrArg (World.drewN _) (Nat.add_assoc _ _ _))⟩)) | (go_at_call 83; (with_reducible refine (date_digits.calls k (a0.extract 17 19) t182 _ A14.out).mono ?_); rintro e w' ⟨rfl, ⟨nd, rfl⟩⟩; (try first | exact ⟨rfl, _, World.drewN_drewN _ _ _⟩ | exact ⟨rfl, _, Eq.trans (World.drewN_drewN _ _ _) (congrArg (World.drewN _) (Nat.add_assoc _ _ _))⟩)) | (go_at_call 83; (with_reducible refine (date_digits.calls k (a0.extract 20 22) t183 _ A17.out).mono ?_); rintro e w' ⟨rfl, ⟨nd, rfl⟩⟩; (try first | exact ⟨rfl, _, World.drewN_drewN _ _ _⟩ | exact ⟨rfl, _, Eq.trans (World.drewN_drewN _ _ _) (congrArg (World.drewN _) (Nat.add_assoc _ _ _))⟩)) | (go_at_call 83; (with_reducible refine (date_digits.calls k (a0.extract 23 25) t184 _ A20.out).mono ?_); rintro e w' ⟨rfl, ⟨nd, rfl⟩⟩; (try first | exact ⟨rfl, _, World.drewN_drewN _ _ _⟩ | exact ⟨rfl, _, Eq.trans (World.drewN_drewN _ _ _) (congrArg (World.drewN _) (Nat.add_assoc _ _ _))⟩)))
              repeat (go_quiet (first | (go_at_call 82; (with_reducible refine (strings_Index.calls (⟨#[74, 97, 110, 70, 101, 98, 77, 97, 114, 65, 112, 114, 77, 97, 121, 74, 117, 110, 74, 117, 108, 65, 117, 103, 83, 101, 112, 79, 99, 116, 78, 111, 118, 68, 101, 99]⟩ : ByteArray) (a0.extract 8 11) t179 _ ?side1 A5.out).mono ?_); (case side1 => repeat (first | exact HRW.out | (with_reducible refine Kd.C_alloc ?_ _) | (with_reducible refine Kd.C_drewN ?_ _) | (with_reducible refine Kd.C_drew ?_))); rintro e w' ⟨rfl, ⟨nd, rfl⟩⟩; (try first | exact ⟨rfl, _, World.drewN_drewN _ _ _⟩ | exact ⟨rfl, _, Eq.trans (World.drewN_drewN _ _ _) (congrArg (World.drewN _) (Nat.add_assoc _ _ _))⟩)) | (go_at_call 83; (with_reducible refine (date_digits.calls k (a0.extract 12 16) t180 _ A8.out).mono ?_); rintro e w' ⟨rfl, ⟨nd, rfl⟩⟩; (try first | exact ⟨rfl, _, World.drewN_drewN _ _ _⟩ | exact ⟨rfl, _, Eq.trans (World.drewN_drewN _ _ _) (congrArg (World.drewN _) (Nat.add_assoc _ _ _))⟩)) | (go_at_call 83; (with_reducible refine (date_digits.calls k (a0.extract 5 7) t181 _ A11.out).mono ?_); rintro e w' ⟨rfl, ⟨nd, rfl⟩⟩; (try first | exact ⟨rfl, _, World.drewN_drewN _ _ _⟩ | exact ⟨rfl, _, Eq.trans (World.drewN_drewN _ _ _) (congrArg (World.drewN _) (Nat.add_assoc _ _ _))⟩)) | (go_at_call 83; (with_reducible refine (date_digits.calls k (a0.extract 17 19) t182 _ A14.out).mono ?_); rintro e w' ⟨rfl, ⟨nd, rfl⟩⟩; (try first | exact ⟨rfl, _, World.drewN_drewN _ _ _⟩ | exact ⟨rfl, _, Eq.trans (World.drewN_drewN _ _ _) (congrArg (World.drewN _) (Nat.add_assoc _ _ _))⟩)) | (go_at_call 83; (with_reducible refine (date_digits.calls k (a0.extract 20 22) t183 _ A17.out).mono ?_); rintro e w' ⟨rfl, ⟨nd, rfl⟩⟩; (try first | exact ⟨rfl, _, World.drewN_drewN _ _ _⟩ | exact ⟨rfl, _, Eq.trans (World.drewN_drewN _ _ _) (congrArg (World.drewN _) (Nat.add_assoc _ _ _))⟩)) | (go_at_call 83; (with_reducible refine (date_digits.calls k (a0.extract 23 25) t184 _ A20.out).mono ?_); rintro e w' ⟨rfl, ⟨nd, rfl⟩⟩; (try first | exact ⟨rfl, _, World.drewN_drewN _ _ _⟩ | exact ⟨rfl, _, Eq.trans (World.drewN_drewN _ _ _) (congrArg (World.drewN _) (Nat.add_assoc _ _ _))⟩))); go_upto_region 6 with (first | (go_at_call 82; (with_reducible refine (strings_Index.calls (⟨#[74, 97, 110, 70, 101, 98, 77, 97, 114, 65, 112, 114, 77, 97, 121, 74, 117, 110, 74, 117, 108, 65, 117, 103, 83, 101, 112, 79, 99, 116, 78, 111, 118, 68, 101, 99]⟩ : ByteArray) (a0.extract 8 11) t179 _ ?side1 A5.out).mono ?_); (case side1 => repeat (first | exact HRW.out | (with_reducible refine Kd.C_alloc ?_ _) | (with_reducible refine Kd.C_drewN ?_ _) | (with_reducible refine Kd.C_drew ?_))); rintro e w' ⟨rfl, ⟨nd, rfl⟩⟩; (try first | exact ⟨rfl, _, World.drewN_drewN _ _ _⟩ | exact ⟨rfl, _, Eq.trans (World.drewN_drewN _ _ _) (congrArg (World.drewN _) (Nat.add_assoc _ _ _))⟩)) | (go_at_call 83; (with_reducible refine (date_digits.calls k (a0.extract 12 16) t180 _ A8.out).mono ?_); rintro e w' ⟨rfl, ⟨nd, rfl⟩⟩; (try first | exact ⟨rfl, _, World.drewN_drewN _ _ _⟩ | exact ⟨rfl, _, Eq.trans (World.drewN_drewN _ _ _) (congrArg (World.drewN _) (Nat.add_assoc _ _ _))⟩)) | (go_at_call 83; (with_reducible refine (date_digits.calls k (a0.extract 5 7) t181 _ A11.out).mono ?_); rintro e w' ⟨rfl, ⟨nd, rfl⟩⟩; (try first | exact ⟨rfl, _, World.drewN_drewN _ _ _⟩ | exact ⟨rfl, _, Eq.trans (World.drewN_drewN _ _ _) (congrArg (World.drewN _) (Nat.add_assoc _ _ _))⟩)) | (go_at_call 83; (with_reducible refine (date_digits.calls k (a0.extract 17 19) t182 _ A14.out).mono ?_); rintro e w' ⟨rfl, ⟨nd, rfl⟩⟩; (try first | exact ⟨rfl, _, World.drewN_drewN _ _ _⟩ | exact ⟨rfl, _, Eq.trans (World.drewN_drewN _ _ _) (congrArg (World.drewN _) (Nat.add_assoc _ _ _))⟩)) | (go_at_call 83; (with_reducible refine (date_digits.calls k (a0.extract 20 22) t183 _ A17.out).mono ?_); rintro e w' ⟨rfl, ⟨nd, rfl⟩⟩; (try first | exact ⟨rfl, _, World.drewN_drewN _ _ _⟩ | exact ⟨rfl, _, Eq.trans (World.drewN_drewN _ _ _) (congrArg (World.drewN _) (Nat.add_assoc _ _ _))⟩)) | (go_at_call 83; (with_reducible refine (date_digits.calls k (a0.extract 23 25) t184 _ A20.out).mono ?_); rintro e w' ⟨rfl, ⟨nd, rfl⟩⟩; (try first | exact ⟨rfl, _, World.drewN_drewN _ _ _⟩ | exact ⟨rfl, _, Eq.trans (World.drewN_drewN _ _ _) (congrArg (World.drewN _) (Nat.add_assoc _ _ _))⟩))))
              (try simp only [Act.put, sA_, sZ_, sS_])
              go_cut [79] (fun v79 wc => ∃ (kq : Nat) (x79_20 : Bool), v79 = .bool x79_20 ∧ Aside0 (date_Read.j0 kq a0 t179 t180 t181 t182 t183 t184 x79_20 = some (r1, r2)) ∧ Aside0 (kq ≤ k) ∧ Aside0 (Below w.heap.size w wc))
              case first =>
               have H := HC21.out
               clear HC21
               by_cases c22 : t179 < 0
               ·
                rw [if_pos c22] at H
                have c22b0 : decide (t179 < 0) = true := decide_eq_true c22
                clear c22
                (first | rw [c22b0] | (simp only [i64_w, i32_w]; rw [c22b0]) | skip)
                have H' := Aside0.mk H
                clear H
                go_wp2
                repeat (go_quiet (fail); try go_wp2)
                go_meet
                case rel => exact ⟨_, (true), (by first | rfl | (simp; done) | (simp [*]; done)), H', ⟨by first | omega | exact Nat.le_refl _⟩, ⟨by repeat (first | (with_reducible first | exact HB.out | apply zA_ | apply zN_ | apply zD_) | exact HB.out)⟩⟩
               ·
                rw [if_neg c22] at H
                have c22b0 : decide (t179 < 0) = false := decide_eq_false c22
                clear c22
                (first | rw [c22b0] | (simp only [i64_w, i32_w]; rw [c22b0]) | skip)
                by_cases c23 : (Int.tmod t179 3) = 0
                ·
                 rw [if_pos c23] at H
                 have c23b0 : ((Int.tmod t179 3) == 0) = true := beq_iff_eq.mpr c23
                 have c23b1 : ((Int.tmod t179 3) != 0) = false := bne_eq_false_iff_eq.mpr c23
                 clear c23
                 by_cases c24 : t181 < 1
                 ·
                  rw [if_pos c24] at H
                  have c24b0 : decide (t181 < 1) = true := decide_eq_true c24
                  clear c24
                  have H' := Aside0.mk H
                  clear H
                  go_wp2
                  repeat (go_quiet (fail); try go_wp2)
                  go_meet
                  case rel => exact ⟨_, (true), (by first | rfl | (simp; done) | (simp [*]; done)), H', ⟨by first | omega | exact Nat.le_refl _⟩, ⟨by repeat (first | (with_reducible first | exact HB.out | apply zA_ | apply zN_ | apply zD_) | exact HB.out)⟩⟩
                 ·
                  rw [if_neg c24] at H
                  have c24b0 : decide (t181 < 1) = false := decide_eq_false c24
                  clear c24
                  replace H := Option.bind_eq_some_iff.mp H
                  obtain ⟨t185, A250, H⟩ := H
                  have A25 := Aside0.mk A250
                  clear A250
                  by_cases c26 : t181 > t185
                  ·
                   rw [if_pos c26] at H
                   have c26b0 : decide (t185 < t181) = true := decide_eq_true c26
                   clear c26
                   have H' := Aside0.mk H
                   clear H
                   go_wp2_with (first | (go_at_call 84; (with_reducible refine (date_Days.calls k t180 (wrap64 ((wrap64 (Int.tdiv t179 3)) + 1)) t185 _ A25.out).mono ?_); rintro e w' ⟨rfl, ⟨nd, rfl⟩⟩; (try first | exact ⟨rfl, _, World.drewN_drewN _ _ _⟩ | exact ⟨rfl, _, Eq.trans (World.drewN_drewN _ _ _) (congrArg (World.drewN _) (Nat.add_assoc _ _ _))⟩)))
                   repeat (go_quiet (first | (go_at_call 84; (with_reducible refine (date_Days.calls k t180 (wrap64 ((wrap64 (Int.tdiv t179 3)) + 1)) t185 _ A25.out).mono ?_); rintro e w' ⟨rfl, ⟨nd, rfl⟩⟩; (try first | exact ⟨rfl, _, World.drewN_drewN _ _ _⟩ | exact ⟨rfl, _, Eq.trans (World.drewN_drewN _ _ _) (congrArg (World.drewN _) (Nat.add_assoc _ _ _))⟩))); try go_wp2_with (first | (go_at_call 84; (with_reducible refine (date_Days.calls k t180 (wrap64 ((wrap64 (Int.tdiv t179 3)) + 1)) t185 _ A25.out).mono ?_); rintro e w' ⟨rfl, ⟨nd, rfl⟩⟩; (try first | exact ⟨rfl, _, World.drewN_drewN _ _ _⟩ | exact ⟨rfl, _, Eq.trans (World.drewN_drewN _ _ _) (congrArg (World.drewN _) (Nat.add_assoc _ _ _))⟩))))
                   go_meet
                   case rel => exact ⟨_, (true), (by first | rfl | (simp; done) | (simp [*]; done)), H', ⟨by first | omega | exact Nat.le_refl _⟩, ⟨by repeat (first | (with_reducible first | exact HB.out | apply zA_ | apply zN_ | apply zD_) | exact HB.out)⟩⟩
                  ·
                   rw [if_neg c26] at H
                   have c26b0 : decide (t185 < t181) = false := decide_eq_false c26
                   clear c26
                   by_cases c27 : t182 < 0
                   ·
                    rw [if_pos c27] at H
                    have c27b0 : decide (t182 < 0) = true := decide_eq_true c27
                    clear c27
                    have H' := Aside0.mk H
                    clear H
                    go_wp2_with (first | (go_at_call 84; (with_reducible refine (date_Days.calls k t180 (wrap64 ((wrap64 (Int.tdiv t179 3)) + 1)) t185 _ A25.out).mono ?_); rintro e w' ⟨rfl, ⟨nd, rfl⟩⟩; (try first | exact ⟨rfl, _, World.drewN_drewN _ _ _⟩ | exact ⟨rfl, _, Eq.trans (World.drewN_drewN _ _ _) (congrArg (World.drewN _) (Nat.add_assoc _ _ _))⟩)))
                    repeat (go_quiet (first | (go_at_call 84; (with_reducible refine (date_Days.calls k t180 (wrap64 ((wrap64 (Int.tdiv t179 3)) + 1)) t185 _ A25.out).mono ?_); rintro e w' ⟨rfl, ⟨nd, rfl⟩⟩; (try first | exact ⟨rfl, _, World.drewN_drewN _ _ _⟩ | exact ⟨rfl, _, Eq.trans (World.drewN_drewN _ _ _) (congrArg (World.drewN _) (Nat.add_assoc _ _ _))⟩))); try go_wp2_with (first | (go_at_call 84; (with_reducible refine (date_Days.calls k t180 (wrap64 ((wrap64 (Int.tdiv t179 3)) + 1)) t185 _ A25.out).mono ?_); rintro e w' ⟨rfl, ⟨nd, rfl⟩⟩; (try first | exact ⟨rfl, _, World.drewN_drewN _ _ _⟩ | exact ⟨rfl, _, Eq.trans (World.drewN_drewN _ _ _) (congrArg (World.drewN _) (Nat.add_assoc _ _ _))⟩))))
                    go_meet
                    case rel => exact ⟨_, (true), (by first | rfl | (simp; done) | (simp [*]; done)), H', ⟨by first | omega | exact Nat.le_refl _⟩, ⟨by repeat (first | (with_reducible first | exact HB.out | apply zA_ | apply zN_ | apply zD_) | exact HB.out)⟩⟩
                   ·
                    rw [if_neg c27] at H
                    have c27b0 : decide (t182 < 0) = false := decide_eq_false c27
                    clear c27
                    by_cases c28 : t182 > 23
                    ·
                     rw [if_pos c28] at H
                     have c28b0 : decide (23 < t182) = true := decide_eq_true c28
                     clear c28
                     have H' := Aside0.mk H
                     clear H
                     go_wp2_with (first | (go_at_call 84; (with_reducible refine (date_Days.calls k t180 (wrap64 ((wrap64 (Int.tdiv t179 3)) + 1)) t185 _ A25.out).mono ?_); rintro e w' ⟨rfl, ⟨nd, rfl⟩⟩; (try first | exact ⟨rfl, _, World.drewN_drewN _ _ _⟩ | exact ⟨rfl, _, Eq.trans (World.drewN_drewN _ _ _) (congrArg (World.drewN _) (Nat.add_assoc _ _ _))⟩)))
                     repeat (go_quiet (first | (go_at_call 84; (with_reducible refine (date_Days.calls k t180 (wrap64 ((wrap64 (Int.tdiv t179 3)) + 1)) t185 _ A25.out).mono ?_); rintro e w' ⟨rfl, ⟨nd, rfl⟩⟩; (try first | exact ⟨rfl, _, World.drewN_drewN _ _ _⟩ | exact ⟨rfl, _, Eq.trans (World.drewN_drewN _ _ _) (congrArg (World.drewN _) (Nat.add_assoc _ _ _))⟩))); try go_wp2_with (first | (go_at_call 84; (with_reducible refine (date_Days.calls k t180 (wrap64 ((wrap64 (Int.tdiv t179 3)) + 1)) t185 _ A25.out).mono ?_); rintro e w' ⟨rfl, ⟨nd, rfl⟩⟩; (try first | exact ⟨rfl, _, World.drewN_drewN _ _ _⟩ | exact ⟨rfl, _, Eq.trans (World.drewN_drewN _ _ _) (congrArg (World.drewN _) (Nat.add_assoc _ _ _))⟩))))
                     go_meet
                     case rel => exact ⟨_, (true), (by first | rfl | (simp; done) | (simp [*]; done)), H', ⟨by first | omega | exact Nat.le_refl _⟩, ⟨by repeat (first | (with_reducible first | exact HB.out | apply zA_ | apply zN_ | apply zD_) | exact HB.out)⟩⟩
                    ·
                     rw [if_neg c28] at H
                     have c28b0 : decide (23 < t182) = false := decide_eq_false c28
                     clear c28
                     by_cases c29 : t183 < 0
                     ·
                      rw [if_pos c29] at H
                      have c29b0 : decide (t183 < 0) = true := decide_eq_true c29
                      clear c29
                      have H' := Aside0.mk H
                      clear H
                      go_wp2_with (first | (go_at_call 84; (with_reducible refine (date_Days.calls k t180 (wrap64 ((wrap64 (Int.tdiv t179 3)) + 1)) t185 _ A25.out).mono ?_); rintro e w' ⟨rfl, ⟨nd, rfl⟩⟩; (try first | exact ⟨rfl, _, World.drewN_drewN _ _ _⟩ | exact ⟨rfl, _, Eq.trans (World.drewN_drewN _ _ _) (congrArg (World.drewN _) (Nat.add_assoc _ _ _))⟩)))
                      repeat (go_quiet (first | (go_at_call 84; (with_reducible refine (date_Days.calls k t180 (wrap64 ((wrap64 (Int.tdiv t179 3)) + 1)) t185 _ A25.out).mono ?_); rintro e w' ⟨rfl, ⟨nd, rfl⟩⟩; (try first | exact ⟨rfl, _, World.drewN_drewN _ _ _⟩ | exact ⟨rfl, _, Eq.trans (World.drewN_drewN _ _ _) (congrArg (World.drewN _) (Nat.add_assoc _ _ _))⟩))); try go_wp2_with (first | (go_at_call 84; (with_reducible refine (date_Days.calls k t180 (wrap64 ((wrap64 (Int.tdiv t179 3)) + 1)) t185 _ A25.out).mono ?_); rintro e w' ⟨rfl, ⟨nd, rfl⟩⟩; (try first | exact ⟨rfl, _, World.drewN_drewN _ _ _⟩ | exact ⟨rfl, _, Eq.trans (World.drewN_drewN _ _ _) (congrArg (World.drewN _) (Nat.add_assoc _ _ _))⟩))))
                      go_meet
                      case rel => exact ⟨_, (true), (by first | rfl | (simp; done) | (simp [*]; done)), H', ⟨by first | omega | exact Nat.le_refl _⟩, ⟨by repeat (first | (with_reducible first | exact HB.out | apply zA_ | apply zN_ | apply zD_) | exact HB.out)⟩⟩
                     ·
                      rw [if_neg c29] at H
                      have c29b0 : decide (t183 < 0) = false := decide_eq_false c29
                      clear c29
                      by_cases c30 : t183 > 59
                      ·
                       rw [if_pos c30] at H
                       have c30b0 : decide (59 < t183) = true := decide_eq_true c30
                       clear c30
                       have H' := Aside0.mk H
                       clear H
                       go_wp2_with (first | (go_at_call 84; (with_reducible refine (date_Days.calls k t180 (wrap64 ((wrap64 (Int.tdiv t179 3)) + 1)) t185 _ A25.out).mono ?_); rintro e w' ⟨rfl, ⟨nd, rfl⟩⟩; (try first | exact ⟨rfl, _, World.drewN_drewN _ _ _⟩ | exact ⟨rfl, _, Eq.trans (World.drewN_drewN _ _ _) (congrArg (World.drewN _) (Nat.add_assoc _ _ _))⟩)))
                       repeat (go_quiet (first | (go_at_call 84; (with_reducible refine (date_Days.calls k t180 (wrap64 ((wrap64 (Int.tdiv t179 3)) + 1)) t185 _ A25.out).mono ?_); rintro e w' ⟨rfl, ⟨nd, rfl⟩⟩; (try first | exact ⟨rfl, _, World.drewN_drewN _ _ _⟩ | exact ⟨rfl, _, Eq.trans (World.drewN_drewN _ _ _) (congrArg (World.drewN _) (Nat.add_assoc _ _ _))⟩))); try go_wp2_with (first | (go_at_call 84; (with_reducible refine (date_Days.calls k t180 (wrap64 ((wrap64 (Int.tdiv t179 3)) + 1)) t185 _ A25.out).mono ?_); rintro e w' ⟨rfl, ⟨nd, rfl⟩⟩; (try first | exact ⟨rfl, _, World.drewN_drewN _ _ _⟩ | exact ⟨rfl, _, Eq.trans (World.drewN_drewN _ _ _) (congrArg (World.drewN _) (Nat.add_assoc _ _ _))⟩))))
                       go_meet
                       case rel => exact ⟨_, (true), (by first | rfl | (simp; done) | (simp [*]; done)), H', ⟨by first | omega | exact Nat.le_refl _⟩, ⟨by repeat (first | (with_reducible first | exact HB.out | apply zA_ | apply zN_ | apply zD_) | exact HB.out)⟩⟩
                      ·
                       rw [if_neg c30] at H
                       have c30b0 : decide (59 < t183) = false := decide_eq_false c30
                       clear c30
                       by_cases c31 : t184 < 0
                       ·
                        rw [if_pos c31] at H
                        have c31b0 : decide (t184 < 0) = true := decide_eq_true c31
                        clear c31
                        have H' := Aside0.mk H
                        clear H
                        go_wp2_with (first | (go_at_call 84; (with_reducible refine (date_Days.calls k t180 (wrap64 ((wrap64 (Int.tdiv t179 3)) + 1)) t185 _ A25.out).mono ?_); rintro e w' ⟨rfl, ⟨nd, rfl⟩⟩; (try first | exact ⟨rfl, _, World.drewN_drewN _ _ _⟩ | exact ⟨rfl, _, Eq.trans (World.drewN_drewN _ _ _) (congrArg (World.drewN _) (Nat.add_assoc _ _ _))⟩)))
                        repeat (go_quiet (first | (go_at_call 84; (with_reducible refine (date_Days.calls k t180 (wrap64 ((wrap64 (Int.tdiv t179 3)) + 1)) t185 _ A25.out).mono ?_); rintro e w' ⟨rfl, ⟨nd, rfl⟩⟩; (try first | exact ⟨rfl, _, World.drewN_drewN _ _ _⟩ | exact ⟨rfl, _, Eq.trans (World.drewN_drewN _ _ _) (congrArg (World.drewN _) (Nat.add_assoc _ _ _))⟩))); try go_wp2_with (first | (go_at_call 84; (with_reducible refine (date_Days.calls k t180 (wrap64 ((wrap64 (Int.tdiv t179 3)) + 1)) t185 _ A25.out).mono ?_); rintro e w' ⟨rfl, ⟨nd, rfl⟩⟩; (try first | exact ⟨rfl, _, World.drewN_drewN _ _ _⟩ | exact ⟨rfl, _, Eq.trans (World.drewN_drewN _ _ _) (congrArg (World.drewN _) (Nat.add_assoc _ _ _))⟩))))
                        go_meet
                        case rel => exact ⟨_, (true), (by first | rfl | (simp; done) | (simp [*]; done)), H', ⟨by first | omega | exact Nat.le_refl _⟩, ⟨by repeat (first | (with_reducible first | exact HB.out | apply zA_ | apply zN_ | apply zD_) | exact HB.out)⟩⟩
                       ·
                        rw [if_neg c31] at H
                        have c31b0 : decide (t184 < 0) = false := decide_eq_false c31
                        clear c31
                        have H' := Aside0.mk H
                        clear H
                        go_wp2_with (first | (go_at_call 84; (with_reducible refine (date_Days.calls k t180 (wrap64 ((wrap64 (Int.tdiv t179 3)) + 1)) t185 _ A25.out).mono ?_); rintro e w' ⟨rfl, ⟨nd, rfl⟩⟩; (try first | exact ⟨rfl, _, World.drewN_drewN _ _ _⟩ | exact ⟨rfl, _, Eq.trans (World.drewN_drewN _ _ _) (congrArg (World.drewN _) (Nat.add_assoc _ _ _))⟩)))
                        repeat (go_quiet (first | (go_at_call 84; (with_reducible refine (date_Days.calls k t180 (wrap64 ((wrap64 (Int.tdiv t179 3)) + 1)) t185 _ A25.out).mono ?_); rintro e w' ⟨rfl, ⟨nd, rfl⟩⟩; (try first | exact ⟨rfl, _, World.drewN_drewN _ _ _⟩ | exact ⟨rfl, _, Eq.trans (World.drewN_drewN _ _ _) (congrArg (World.drewN _) (Nat.add_assoc _ _ _))⟩))); try go_wp2_with (first | (go_at_call 84; (with_reducible refine (date_Days.calls k t180 (wrap64 ((wrap64 (Int.tdiv t179 3)) + 1)) t185 _ A25.out).mono ?_); rintro e w' ⟨rfl, ⟨nd, rfl⟩⟩; (try first | exact ⟨rfl, _, World.drewN_drewN _ _ _⟩ | exact ⟨rfl, _, Eq.trans (World.drewN_drewN _ _ _) (congrArg (World.drewN _) (Nat.add_assoc _ _ _))⟩))))
                        go_meet
                        case rel => exact ⟨_, (decide (t184 > 59)), (by first | rfl | (simp; done) | (simp [*]; done)), H', ⟨by first | omega | exact Nat.le_refl _⟩, ⟨by repeat (first | (with_reducible first | exact HB.out | apply zA_ | apply zN_ | apply zD_) | exact HB.out)⟩⟩
                ·
                 rw [if_neg c23] at H
                 have c23b0 : ((Int.tmod t179 3) == 0) = false := beq_eq_false_iff_ne.mpr c23
                 have c23b1 : ((Int.tmod t179 3) != 0) = true := bne_iff_ne.mpr c23
                 have H' := Aside0.mk H
                 clear H
                 go_wp2
                 repeat (go_quiet (fail); try go_wp2)
                 go_meet
                 case rel => exact ⟨_, (true), (by first | rfl | (simp; done) | (simp [*]; done)), H', ⟨by first | omega | exact Nat.le_refl _⟩, ⟨by repeat (first | (with_reducible first | exact HB.out | apply zA_ | apply zN_ | apply zD_) | exact HB.out)⟩⟩
              case rest =>
               clear HC21
               (try clear c2); (try clear c2b0); (try clear c2b1); (try clear c3); (try clear c3b0); (try clear c3b1); (try clear c4); (try clear c4b0); (try clear c4b1); (try clear c6); (try clear c6b0); (try clear c6b1); (try clear c7); (try clear c7b0); (try clear c7b1); (try clear c9); (try clear c9b0); (try clear c9b1); (try clear c10); (try clear c10b0); (try clear c10b1); (try clear c12); (try clear c12b0); (try clear c12b1); (try clear c13); (try clear c13b0); (try clear c13b1); (try clear c15); (try clear c15b0); (try clear c15b1); (try clear c16); (try clear c16b0); (try clear c16b1); (try clear c18); (try clear c18b0); (try clear c18b1); (try clear c19); (try clear c19b0); (try clear c19b1); (try clear c22); (try clear c22b0); (try clear c23); (try clear c23b0); (try clear c23b1); (try clear c24); (try clear c24b0); (try clear c26); (try clear c26b0); (try clear c27); (try clear c27b0); (try clear c28); (try clear c28b0); (try clear c29); (try clear c29b0); (try clear c30); (try clear c30b0); (try clear c31); (try clear c31b0)
               obtain ⟨kq, x79_20, rfl, HA, HJ20, HB⟩ := hcut
               cases kq with
               | zero => exact absurd HA.out (by simp [date_Read.j0])
               | succ kj20 =>
                have H := HA.out
                clear HA
                simp only [date_Read.j0] at H
                by_cases c32 : x79_20 = true
                ·
                 subst c32
                 rw [if_pos rfl] at H
                 simp only [Option.some.injEq, Prod.mk.injEq] at H
                 obtain ⟨rfl, rfl⟩ := H
                 go_wp2
                 repeat (go_quiet (fail); try go_wp2)
                 go_ret2
                 exact ⟨by first | rfl | (generalize ByteArray.toList _ = l_; cases l_ <;> rfl) | (simp [errW_none, errW_some] <;> rfl) | (simp [*, errW_none, errW_some] <;> rfl), by repeat (first | (with_reducible first | exact HB.out | apply zA_ | apply zN_ | apply zD_) | exact HB.out)⟩
                ·
                 replace c32 := Bool.eq_false_iff.mpr c32
                 subst c32
                 rw [if_neg (show ¬ (false = true) by decide)] at H
                 replace H := Option.bind_eq_some_iff.mp H
                 obtain ⟨t186, A330, H⟩ := H
                 have A33 := Aside0.mk A330
                 clear A330
                 have H' := Aside0.mk H
                 clear H
                 go_wp2_with (first | (go_at_call 85; (with_reducible refine (date_before.calls t180 t186 _ A33.out).mono ?_); rintro e w' ⟨rfl, ⟨nd, rfl⟩⟩; (try first | exact ⟨rfl, _, World.drewN_drewN _ _ _⟩ | exact ⟨rfl, _, Eq.trans (World.drewN_drewN _ _ _) (congrArg (World.drewN _) (Nat.add_assoc _ _ _))⟩)))
                 repeat (go_quiet (first | (go_at_call 85; (with_reducible refine (date_before.calls t180 t186 _ A33.out).mono ?_); rintro e w' ⟨rfl, ⟨nd, rfl⟩⟩; (try first | exact ⟨rfl, _, World.drewN_drewN _ _ _⟩ | exact ⟨rfl, _, Eq.trans (World.drewN_drewN _ _ _) (congrArg (World.drewN _) (Nat.add_assoc _ _ _))⟩))); try go_wp2_with (first | (go_at_call 85; (with_reducible refine (date_before.calls t180 t186 _ A33.out).mono ?_); rintro e w' ⟨rfl, ⟨nd, rfl⟩⟩; (try first | exact ⟨rfl, _, World.drewN_drewN _ _ _⟩ | exact ⟨rfl, _, Eq.trans (World.drewN_drewN _ _ _) (congrArg (World.drewN _) (Nat.add_assoc _ _ _))⟩))))
                 go_loopg [10, 11] kj20 (fun kq v10 v11 w' => ∃ (x10_2 : Int) (x11_2 : Int), v10 = .int .i64 x10_2 ∧ v11 = .int .i64 x11_2 ∧ Aside0 (date_Read.l0 kq a0 t179 t180 t182 t183 t184 x10_2 x11_2 = some (r1, r2)) ∧ Aside0 (kq ≤ kj20) ∧ Aside0 (Below w.heap.size w w'))
                 case atStart => exact ⟨(wrap64 ((wrap64 (t186 + t181)) - 1)), (1), (by first | rfl | (simp; done) | (simp [*]; done)), (by first | rfl | (simp; done) | (simp [*]; done)), H', ⟨Nat.le_refl _⟩, ⟨by repeat (first | (with_reducible first | exact HB.out | apply zA_ | apply zN_ | apply zD_) | exact HB.out)⟩⟩
                 case round =>
                  clear H'
                  (try clear c2); (try clear c2b0); (try clear c2b1); (try clear c3); (try clear c3b0); (try clear c3b1); (try clear c4); (try clear c4b0); (try clear c4b1); (try clear c6); (try clear c6b0); (try clear c6b1); (try clear c7); (try clear c7b0); (try clear c7b1); (try clear c9); (try clear c9b0); (try clear c9b1); (try clear c10); (try clear c10b0); (try clear c10b1); (try clear c12); (try clear c12b0); (try clear c12b1); (try clear c13); (try clear c13b0); (try clear c13b1); (try clear c15); (try clear c15b0); (try clear c15b1); (try clear c16); (try clear c16b0); (try clear c16b1); (try clear c18); (try clear c18b0); (try clear c18b1); (try clear c19); (try clear c19b0); (try clear c19b1); (try clear c22); (try clear c22b0); (try clear c23); (try clear c23b0); (try clear c23b1); (try clear c24); (try clear c24b0); (try clear c26); (try clear c26b0); (try clear c27); (try clear c27b0); (try clear c28); (try clear c28b0); (try clear c29); (try clear c29b0); (try clear c30); (try clear c30b0); (try clear c31); (try clear c31b0); (try clear c32)
                  obtain ⟨x10_2, x11_2, rfl, rfl, HA, HK2, HB⟩ := hrel
                  cases gk with
                  | zero => exact absurd HA.out (by simp [date_Read.l0])
                  | succ k2 =>
                   have H := HA.out
                   clear HA
                   simp only [date_Read.l0] at H
                   by_cases c34 : x11_2 ≤ (wrap64 (Int.tdiv t179 3))
                   ·
                    rw [if_pos c34] at H
                    have c34b0 : decide (x11_2 ≤ (wrap64 (Int.tdiv t179 3))) = true := decide_eq_true c34
                    clear c34
                    replace H := Option.bind_eq_some_iff.mp H
                    obtain ⟨t187, A350, H⟩ := H
                    have A35 := Aside0.mk A350
                    clear A350
                    have H' := Aside0.mk H
                    clear H
                    go_wp2_with (first | (go_at_call 84; (with_reducible refine (date_Days.calls k2 t180 x11_2 t187 _ A35.out).mono ?_); rintro e w' ⟨rfl, ⟨nd, rfl⟩⟩; (try first | exact ⟨rfl, _, World.drewN_drewN _ _ _⟩ | exact ⟨rfl, _, Eq.trans (World.drewN_drewN _ _ _) (congrArg (World.drewN _) (Nat.add_assoc _ _ _))⟩)))
                    repeat (go_quiet (first | (go_at_call 84; (with_reducible refine (date_Days.calls k2 t180 x11_2 t187 _ A35.out).mono ?_); rintro e w' ⟨rfl, ⟨nd, rfl⟩⟩; (try first | exact ⟨rfl, _, World.drewN_drewN _ _ _⟩ | exact ⟨rfl, _, Eq.trans (World.drewN_drewN _ _ _) (congrArg (World.drewN _) (Nat.add_assoc _ _ _))⟩))); try go_wp2_with (first | (go_at_call 84; (with_reducible refine (date_Days.calls k2 t180 x11_2 t187 _ A35.out).mono ?_); rintro e w' ⟨rfl, ⟨nd, rfl⟩⟩; (try first | exact ⟨rfl, _, World.drewN_drewN _ _ _⟩ | exact ⟨rfl, _, Eq.trans (World.drewN_drewN _ _ _) (congrArg (World.drewN _) (Nat.add_assoc _ _ _))⟩))))
                    go_roundg k2
                    case measure => have := HJ20.out; have := HK2.out; omega
                    case rel => exact ⟨(wrap64 (x10_2 + t187)), (wrap64 (x11_2 + 1)), (by first | rfl | (simp; done) | (simp [*]; done)), (by first | rfl | (simp; done) | (simp [*]; done)), H', ⟨by have := HJ20.out; have := HK2.out; omega⟩, ⟨by repeat (first | (with_reducible first | exact HB.out | apply zA_ | apply zN_ | apply zD_) | exact HB.out)⟩⟩
                   ·
                    rw [if_neg c34] at H
                    have c34b0 : decide (x11_2 ≤ (wrap64 (Int.tdiv t179 3))) = false := decide_eq_false c34
                    clear c34
                    replace H := Option.bind_eq_some_iff.mp H
                    obtain ⟨⟨t188, t189⟩, A360, H⟩ := H
                    replace H : (if t188.toList = a0.toList then (some (wrap64 ((wrap64 ((wrap64 ((wrap64 (x10_2 * 86400)) + (wrap64 (t182 * 3600)))) + (wrap64 (t183 * 60)))) + t184), 0)) else (some (0, 14))) = some (r1, r2) := H
                    have A36 := Aside0.mk A360
                    clear A360
                    by_cases c37 : t188.toList = a0.toList
                    ·
                     rw [if_pos c37] at H
                     have c37b0 : (t188.toList == a0.toList) = true := beq_iff_eq.mpr c37
                     have c37b1 : (t188.toList != a0.toList) = false := bne_eq_false_iff_eq.mpr c37
                     clear c37
                     simp only [Option.some.injEq, Prod.mk.injEq] at H
                     obtain ⟨rfl, rfl⟩ := H
                     go_wp2_with (first | (go_at_call 86; (with_reducible refine (date_Show.calls k2 (wrap64 ((wrap64 ((wrap64 ((wrap64 (x10_2 * 86400)) + (wrap64 (t182 * 3600)))) + (wrap64 (t183 * 60)))) + t184)) t188 t189 _ A36.out).mono ?_); rintro e w38 ⟨rfl, hb⟩; have n0_ := Aside0.mk (below_step (by repeat (first | (with_reducible first | exact HB.out | apply zA_ | apply zN_ | apply zD_) | exact HB.out)) hb); clear HB; have HB := n0_; clear n0_; (try clear hb); (try clear hb2); (try clear hk); (try clear hi)))
                     repeat (go_quiet (first | (go_at_call 86; (with_reducible refine (date_Show.calls k2 (wrap64 ((wrap64 ((wrap64 ((wrap64 (x10_2 * 86400)) + (wrap64 (t182 * 3600)))) + (wrap64 (t183 * 60)))) + t184)) t188 t189 _ A36.out).mono ?_); rintro e w38 ⟨rfl, hb⟩; have n0_ := Aside0.mk (below_step (by repeat (first | (with_reducible first | exact HB.out | apply zA_ | apply zN_ | apply zD_) | exact HB.out)) hb); clear HB; have HB := n0_; clear n0_; (try clear hb); (try clear hb2); (try clear hk); (try clear hi))); try go_wp2_with (first | (go_at_call 86; (with_reducible refine (date_Show.calls k2 (wrap64 ((wrap64 ((wrap64 ((wrap64 (x10_2 * 86400)) + (wrap64 (t182 * 3600)))) + (wrap64 (t183 * 60)))) + t184)) t188 t189 _ A36.out).mono ?_); rintro e w38 ⟨rfl, hb⟩; have n0_ := Aside0.mk (below_step (by repeat (first | (with_reducible first | exact HB.out | apply zA_ | apply zN_ | apply zD_) | exact HB.out)) hb); clear HB; have HB := n0_; clear n0_; (try clear hb); (try clear hb2); (try clear hk); (try clear hi))))
                     go_ret2
                     exact ⟨by first | rfl | (generalize ByteArray.toList _ = l_; cases l_ <;> rfl) | (simp [errW_none, errW_some] <;> rfl) | (simp [*, errW_none, errW_some] <;> rfl), by repeat (first | (with_reducible first | exact HB.out | apply zA_ | apply zN_ | apply zD_) | exact HB.out)⟩
                    ·
                     rw [if_neg c37] at H
                     have c37b0 : (t188.toList == a0.toList) = false := beq_eq_false_iff_ne.mpr c37
                     have c37b1 : (t188.toList != a0.toList) = true := bne_iff_ne.mpr c37
                     simp only [Option.some.injEq, Prod.mk.injEq] at H
                     obtain ⟨rfl, rfl⟩ := H
                     go_wp2_with (first | (go_at_call 86; (with_reducible refine (date_Show.calls k2 (wrap64 ((wrap64 ((wrap64 ((wrap64 (x10_2 * 86400)) + (wrap64 (t182 * 3600)))) + (wrap64 (t183 * 60)))) + t184)) t188 t189 _ A36.out).mono ?_); rintro e w39 ⟨rfl, hb⟩; have n0_ := Aside0.mk (below_step (by repeat (first | (with_reducible first | exact HB.out | apply zA_ | apply zN_ | apply zD_) | exact HB.out)) hb); clear HB; have HB := n0_; clear n0_; (try clear hb); (try clear hb2); (try clear hk); (try clear hi)))
                     repeat (go_quiet (first | (go_at_call 86; (with_reducible refine (date_Show.calls k2 (wrap64 ((wrap64 ((wrap64 ((wrap64 (x10_2 * 86400)) + (wrap64 (t182 * 3600)))) + (wrap64 (t183 * 60)))) + t184)) t188 t189 _ A36.out).mono ?_); rintro e w39 ⟨rfl, hb⟩; have n0_ := Aside0.mk (below_step (by repeat (first | (with_reducible first | exact HB.out | apply zA_ | apply zN_ | apply zD_) | exact HB.out)) hb); clear HB; have HB := n0_; clear n0_; (try clear hb); (try clear hb2); (try clear hk); (try clear hi))); try go_wp2_with (first | (go_at_call 86; (with_reducible refine (date_Show.calls k2 (wrap64 ((wrap64 ((wrap64 ((wrap64 (x10_2 * 86400)) + (wrap64 (t182 * 3600)))) + (wrap64 (t183 * 60)))) + t184)) t188 t189 _ A36.out).mono ?_); rintro e w39 ⟨rfl, hb⟩; have n0_ := Aside0.mk (below_step (by repeat (first | (with_reducible first | exact HB.out | apply zA_ | apply zN_ | apply zD_) | exact HB.out)) hb); clear HB; have HB := n0_; clear n0_; (try clear hb); (try clear hb2); (try clear hk); (try clear hi))))
                     go_ret2
                     exact ⟨by first | rfl | (generalize ByteArray.toList _ = l_; cases l_ <;> rfl) | (simp [errW_none, errW_some] <;> rfl) | (simp [*, errW_none, errW_some] <;> rfl), by repeat (first | (with_reducible first | exact HB.out | apply zA_ | apply zN_ | apply zD_) | exact HB.out)⟩
             ·
              rw [if_neg c19] at H
              exact absurd H (by simp)
            ·
             rw [if_neg c18] at H
             exact absurd H (by simp)
           ·
            rw [if_neg c16] at H
            exact absurd H (by simp)
          ·
           rw [if_neg c15] at H
           exact absurd H (by simp)
         ·
          rw [if_neg c13] at H
          exact absurd H (by simp)
        ·
         rw [if_neg c12] at H
         exact absurd H (by simp)
       ·
        rw [if_neg c10] at H
        exact absurd H (by simp)
      ·
       rw [if_neg c9] at H
       exact absurd H (by simp)
     ·
      rw [if_neg c7] at H
      exact absurd H (by simp)
    ·
     rw [if_neg c6] at H
     exact absurd H (by simp)
   ·
    rw [if_neg c4] at H
    exact absurd H (by simp)
  ·
   rw [if_neg c3] at H
   exact absurd H (by simp)
 ·
  rw [if_neg c2] at H
  have c2b0 : ((a0.size : Int) == 29) = false := beq_eq_false_iff_ne.mpr c2
  have c2b1 : ((a0.size : Int) != 29) = true := bne_iff_ne.mpr c2
  simp only [Option.some.injEq, Prod.mk.injEq] at H
  obtain ⟨rfl, rfl⟩ := H
  go_enter Tryz.func62, Tryz.ntmps62
  go_wp2
  repeat (go_quiet (fail); try go_wp2)
  go_ret2
  exact ⟨by first | rfl | (generalize ByteArray.toList _ = l_; cases l_ <;> rfl) | (simp [errW_none, errW_some] <;> rfl) | (simp [*, errW_none, errW_some] <;> rfl), by repeat (first | (with_reducible first | exact HB.out | apply zA_ | apply zN_ | apply zD_) | exact HB.out)⟩

/-! ### fresh_dated: function 38 -/
def fresh_dated.f (k : Nat) (l0 : List (S46)) (a1 : ByteArray) (a2 : Int) : Option (Int) := (field_List_Get.f k l0 a1).bind fun bt190 => ((date_Read.f k bt190.1).bind fun bt192 => (if bt192.2 = 0 then (some bt192.1) else (some a2)))
theorem fresh_dated.mono : ∀ a0 a1 a2 k, LeO (fresh_dated.f k a0 a1 a2) (fresh_dated.f (k + 1) a0 a1 a2) := by
 intro a0 a1 a2 k
 unfold fresh_dated.f
 repeat' first
   | (with_reducible exact date_Read.mono _ _)
   | (with_reducible exact field_List_Get.mono _ _ _)
   | (with_reducible exact LeO.refl _)
   | (with_reducible exact LeO.none _)
   | (with_reducible refine LeO.ite ?_ ?_)
   | (with_reducible refine LeO.bind ?_ (fun _ => ?_))
   | exact date_Read.mono _ _
   | exact field_List_Get.mono _ _ _
   | exact LeO.none _
   | refine LeO.ite ?_ ?_
   | refine LeO.bind ?_ (fun _ => ?_)
set_option maxHeartbeats 8000000 in
set_option maxRecDepth 100000 in
theorem fresh_dated.calls (k : Nat) (A0 : Option Addr) (c0 : Nat) (l0 : List (S46)) (a1 : ByteArray) (a2 : Int) (r : Int) (w : World) (hr0 : Kd.C k46 w A0 l0.length l0) (hc0 : l0.length ≤ c0) (hrW : WF w) (h : fresh_dated.f k l0 a1 a2 = some r) :
  Calls Tryz.prog 38 #[.slice A0 l0.length c0, .string a1, .int .i64 a2] w fun e w' => e = .returned (.int .i64 r) ∧ Below w.heap.size w w' := by
 have HRW := Aside0.mk hrW
 clear hrW
 have HR0 := Aside0.mk hr0
 have HC0 := Aside0.mk hc0
 clear hr0 hc0
 have HB := Aside0.mk (Below.refl w.heap.size w)
 have H : ((field_List_Get.f k l0 a1).bind fun bt190 => ((date_Read.f k bt190.1).bind fun bt192 => (if bt192.2 = 0 then (some bt192.1) else (some a2)))) = some r := h
 clear h
 replace H := Option.bind_eq_some_iff.mp H
 obtain ⟨⟨t190, t191⟩, A40, H⟩ := H
 replace H : ((date_Read.f k t190).bind fun bt192 => (if bt192.2 = 0 then (some bt192.1) else (some a2))) = some r := H
 have A4 := Aside0.mk A40
 clear A40
 replace H := Option.bind_eq_some_iff.mp H
 obtain ⟨⟨t192, t193⟩, A50, H⟩ := H
 replace H : (if t193 = 0 then (some t192) else (some a2)) = some r := H
 have A5 := Aside0.mk A50
 clear A50
 by_cases c6 : t193 = 0
 ·
  rw [if_pos c6] at H
  have c6b0 : (t193 == 0) = true := beq_iff_eq.mpr c6
  have c6b1 : (t193 != 0) = false := bne_eq_false_iff_eq.mpr c6
  clear c6
  obtain rfl := Option.some.inj H
  go_enter Tryz.func38, Tryz.ntmps38
  go_wp2_with (first | ((with_reducible refine gate_callee (f := 28) rfl ?_); refine goesL_ (some 14) rfl rfl Tryz.func28 (by kernel_rfl) rfl #[.slice A0 l0.length c0, .string a1] rfl (by (try simp only [mA_, mC_, mN_]); first | done | rfl | (simp only [List.length_drop, List.length_take]; rfl)) ?_; (with_reducible refine (field_List_Get.calls k _ _ l0 a1 t190 t191 _ ?side1 ?side2 A4.out).mono ?_); (case side1 => repeat (first | exact HR0.out | (with_reducible refine Kd.C_alloc ?_ _) | (with_reducible refine Kd.C_drewN ?_ _) | (with_reducible refine Kd.C_drew ?_))); (case side2 => exact HC0.out); rintro e w7 ⟨rfl, hb⟩; refine ⟨_, rfl, ?_⟩; have n0_ := Aside0.mk (below_step (by repeat (first | (with_reducible first | exact HB.out | apply zA_ | apply zN_ | apply zD_) | exact HB.out)) hb); clear HB; have HB := n0_; clear n0_; (try clear hb); (try clear hb2); (try clear hk); (try clear hi)) | ((with_reducible refine gate_callee (f := 62) rfl ?_); refine goesL_ (some 19) rfl rfl Tryz.func62 (by kernel_rfl) rfl #[.string t190] rfl (by (try simp only [mA_, mC_, mN_]); first | done | rfl | (simp only [List.length_drop, List.length_take]; rfl)) ?_; (with_reducible refine (date_Read.calls k t190 t192 t193 _ ?side1 A5.out).mono ?_); (case side1 => repeat (first | exact (WF.below HRW.out HB.out) | (with_reducible refine Kd.C_alloc ?_ _) | (with_reducible refine Kd.C_drewN ?_ _) | (with_reducible refine Kd.C_drew ?_))); rintro e w8 ⟨rfl, hb⟩; refine ⟨_, rfl, ?_⟩; have n0_ := Aside0.mk (below_step (by repeat (first | (with_reducible first | exact HB.out | apply zA_ | apply zN_ | apply zD_) | exact HB.out)) hb); clear HB; have HB := n0_; clear n0_; (try clear hb); (try clear hb2); (try clear hk); (try clear hi)))
  go_ret
  exact ⟨by first | rfl | (generalize ByteArray.toList _ = l_; cases l_ <;> rfl) | (simp [errW_none, errW_some] <;> rfl) | (simp [*, errW_none, errW_some] <;> rfl), by repeat (first | (with_reducible first | exact HB.out | apply zA_ | apply zN_ | apply zD_) | exact HB.out)⟩
 ·
  rw [if_neg c6] at H
  have c6b0 : (t193 == 0) = false := beq_eq_false_iff_ne.mpr c6
  have c6b1 : (t193 != 0) = true := bne_iff_ne.mpr c6
  obtain rfl := Option.some.inj H
  go_enter Tryz.func38, Tryz.ntmps38
  go_wp2_with (first | ((with_reducible refine gate_callee (f := 28) rfl ?_); refine goesL_ (some 14) rfl rfl Tryz.func28 (by kernel_rfl) rfl #[.slice A0 l0.length c0, .string a1] rfl (by (try simp only [mA_, mC_, mN_]); first | done | rfl | (simp only [List.length_drop, List.length_take]; rfl)) ?_; (with_reducible refine (field_List_Get.calls k _ _ l0 a1 t190 t191 _ ?side1 ?side2 A4.out).mono ?_); (case side1 => repeat (first | exact HR0.out | (with_reducible refine Kd.C_alloc ?_ _) | (with_reducible refine Kd.C_drewN ?_ _) | (with_reducible refine Kd.C_drew ?_))); (case side2 => exact HC0.out); rintro e w9 ⟨rfl, hb⟩; refine ⟨_, rfl, ?_⟩; have n0_ := Aside0.mk (below_step (by repeat (first | (with_reducible first | exact HB.out | apply zA_ | apply zN_ | apply zD_) | exact HB.out)) hb); clear HB; have HB := n0_; clear n0_; (try clear hb); (try clear hb2); (try clear hk); (try clear hi)) | ((with_reducible refine gate_callee (f := 62) rfl ?_); refine goesL_ (some 19) rfl rfl Tryz.func62 (by kernel_rfl) rfl #[.string t190] rfl (by (try simp only [mA_, mC_, mN_]); first | done | rfl | (simp only [List.length_drop, List.length_take]; rfl)) ?_; (with_reducible refine (date_Read.calls k t190 t192 t193 _ ?side1 A5.out).mono ?_); (case side1 => repeat (first | exact (WF.below HRW.out HB.out) | (with_reducible refine Kd.C_alloc ?_ _) | (with_reducible refine Kd.C_drewN ?_ _) | (with_reducible refine Kd.C_drew ?_))); rintro e w10 ⟨rfl, hb⟩; refine ⟨_, rfl, ?_⟩; have n0_ := Aside0.mk (below_step (by repeat (first | (with_reducible first | exact HB.out | apply zA_ | apply zN_ | apply zD_) | exact HB.out)) hb); clear HB; have HB := n0_; clear n0_; (try clear hb); (try clear hb2); (try clear hk); (try clear hi)))
  go_ret
  exact ⟨by first | rfl | (generalize ByteArray.toList _ = l_; cases l_ <;> rfl) | (simp [errW_none, errW_some] <;> rfl) | (simp [*, errW_none, errW_some] <;> rfl), by repeat (first | (with_reducible first | exact HB.out | apply zA_ | apply zN_ | apply zD_) | exact HB.out)⟩

/-! ### fresh_said: function 35 -/
def fresh_said.f (k : Nat) (l0 : List (S46)) (a1 : Int) : Option (Int) := (control_Of.f k l0).bind fun bt194 => ((fresh_dated.f k l0 (⟨#[68, 97, 116, 101]⟩ : ByteArray) a1).bind fun t205 => ((field_List_Get.f k l0 (⟨#[69, 120, 112, 105, 114, 101, 115]⟩ : ByteArray)).bind fun bt206 => (if bt194.2.2.2.2.2.2.2.1 ≥ 0 then (some bt194.2.2.2.2.2.2.2.1) else (if bt194.2.2.2.2.2.2.1 ≥ 0 then (some bt194.2.2.2.2.2.2.1) else (if bt206.2 = true then ((fresh_dated.f k l0 (⟨#[69, 120, 112, 105, 114, 101, 115]⟩ : ByteArray) 0).bind fun t208 => (some (mx (wrap64 (t208 - t205)) 0))) else ((fresh_dated.f k l0 (⟨#[76, 97, 115, 116, 45, 77, 111, 100, 105, 102, 105, 101, 100]⟩ : ByteArray) t205).bind fun t209 => (some (wrap64 ((mx (wrap64 (t205 - t209)) 0) / 10)))))))))
theorem fresh_said.mono : ∀ a0 a1 k, LeO (fresh_said.f k a0 a1) (fresh_said.f (k + 1) a0 a1) := by
 intro a0 a1 k
 unfold fresh_said.f
 repeat' first
   | (with_reducible exact control_Of.mono _ _)
   | (with_reducible exact field_List_Get.mono _ _ _)
   | (with_reducible exact fresh_dated.mono _ _ _ _)
   | (with_reducible exact LeO.refl _)
   | (with_reducible exact LeO.none _)
   | (with_reducible refine LeO.ite ?_ ?_)
   | (with_reducible refine LeO.bind ?_ (fun _ => ?_))
   | exact control_Of.mono _ _
   | exact field_List_Get.mono _ _ _
   | exact fresh_dated.mono _ _ _ _
   | exact LeO.none _
   | refine LeO.ite ?_ ?_
   | refine LeO.bind ?_ (fun _ => ?_)
set_option maxHeartbeats 8000000 in
set_option maxRecDepth 100000 in
theorem fresh_said.calls (k : Nat) (A0 : Option Addr) (c0 : Nat) (l0 : List (S46)) (a1 : Int) (r : Int) (w : World) (hr0 : Kd.C k46 w A0 l0.length l0) (hc0 : l0.length ≤ c0) (hrW : WF w) (h : fresh_said.f k l0 a1 = some r) :
  Calls Tryz.prog 35 #[.slice A0 l0.length c0, .int .i64 a1] w fun e w' => e = .returned (.int .i64 r) ∧ Below w.heap.size w w' := by
 have hu57 := Tryz.underlying57
 have HRW := Aside0.mk hrW
 clear hrW
 have HR0 := Aside0.mk hr0
 have HC0 := Aside0.mk hc0
 clear hr0 hc0
 have HB := Aside0.mk (Below.refl w.heap.size w)
 have H : ((control_Of.f k l0).bind fun bt194 => ((fresh_dated.f k l0 (⟨#[68, 97, 116, 101]⟩ : ByteArray) a1).bind fun t205 => ((field_List_Get.f k l0 (⟨#[69, 120, 112, 105, 114, 101, 115]⟩ : ByteArray)).bind fun bt206 => (if bt194.2.2.2.2.2.2.2.1 ≥ 0 then (some bt194.2.2.2.2.2.2.2.1) else (if bt194.2.2.2.2.2.2.1 ≥ 0 then (some bt194.2.2.2.2.2.2.1) else (if bt206.2 = true then ((fresh_dated.f k l0 (⟨#[69, 120, 112, 105, 114, 101, 115]⟩ : ByteArray) 0).bind fun t208 => (some (mx (wrap64 (t208 - t205)) 0))) else ((fresh_dated.f k l0 (⟨#[76, 97, 115, 116, 45, 77, 111, 100, 105, 102, 105, 101, 100]⟩ : ByteArray) t205).bind fun t209 => (some (wrap64 ((mx (wrap64 (t205 - t209)) 0) / 10)))))))))) = some r := h
 clear h
 replace H := Option.bind_eq_some_iff.mp H
 obtain ⟨⟨t194, t195, t196, t197, t198, t199, t200, t201, t202, t203⟩, A30, H⟩ := H
 replace H : ((fresh_dated.f k l0 (⟨#[68, 97, 116, 101]⟩ : ByteArray) a1).bind fun t205 => ((field_List_Get.f k l0 (⟨#[69, 120, 112, 105, 114, 101, 115]⟩ : ByteArray)).bind fun bt206 => (if t201 ≥ 0 then (some t201) else (if t200 ≥ 0 then (some t200) else (if bt206.2 = true then ((fresh_dated.f k l0 (⟨#[69, 120, 112, 105, 114, 101, 115]⟩ : ByteArray) 0).bind fun t208 => (some (mx (wrap64 (t208 - t205)) 0))) else ((fresh_dated.f k l0 (⟨#[76, 97, 115, 116, 45, 77, 111, 100, 105, 102, 105, 101, 100]⟩ : ByteArray) t205).bind fun t209 => (some (wrap64 ((mx (wrap64 (t205 - t209)) 0) / 10))))))))) = some r := H
 have A3 := Aside0.mk A30
 clear A30
 replace H := Option.bind_eq_some_iff.mp H
 obtain ⟨t205, A40, H⟩ := H
 have A4 := Aside0.mk A40
 clear A40
 replace H := Option.bind_eq_some_iff.mp H
 obtain ⟨⟨t206, t207⟩, A50, H⟩ := H
 replace H : (if t201 ≥ 0 then (some t201) else (if t200 ≥ 0 then (some t200) else (if t207 = true then ((fresh_dated.f k l0 (⟨#[69, 120, 112, 105, 114, 101, 115]⟩ : ByteArray) 0).bind fun t208 => (some (mx (wrap64 (t208 - t205)) 0))) else ((fresh_dated.f k l0 (⟨#[76, 97, 115, 116, 45, 77, 111, 100, 105, 102, 105, 101, 100]⟩ : ByteArray) t205).bind fun t209 => (some (wrap64 ((mx (wrap64 (t205 - t209)) 0) / 10))))))) = some r := H
 have A5 := Aside0.mk A50
 clear A50
 by_cases c6 : t201 ≥ 0
 ·
  rw [if_pos c6] at H
  have c6b0 : decide (0 ≤ t201) = true := decide_eq_true c6
  clear c6
  obtain rfl := Option.some.inj H
  go_enter Tryz.func35, Tryz.ntmps35
  go_wp2_with (first | ((with_reducible refine gate_callee (f := 27) rfl ?_); refine goesL_ (some 10) rfl rfl Tryz.func27 (by kernel_rfl) rfl #[.slice A0 l0.length c0] rfl (by (try simp only [mA_, mC_, mN_]); first | done | rfl | (simp only [List.length_drop, List.length_take]; rfl)) ?_; (with_reducible refine (control_Of.calls k _ _ l0 t194 t195 t196 t197 t198 t199 t200 t201 t202 t203 _ ?side1 ?side2 A3.out).mono ?_); (case side1 => repeat (first | exact HR0.out | (with_reducible refine Kd.C_alloc ?_ _) | (with_reducible refine Kd.C_drewN ?_ _) | (with_reducible refine Kd.C_drew ?_))); (case side2 => exact HC0.out); rintro e w7 ⟨rfl, hb⟩; refine ⟨_, rfl, ?_⟩; have n0_ := Aside0.mk (below_step (by repeat (first | (with_reducible first | exact HB.out | apply zA_ | apply zN_ | apply zD_) | exact HB.out)) hb); clear HB; have HB := n0_; clear n0_; (try clear hb); (try clear hb2); (try clear hk); (try clear hi)) | ((with_reducible refine gate_dst (N := 5) rfl ?_); refine box_event ?hg (N := 5) ?hd (cs := #[.bool false, .bool false, .bool false, .bool false, .bool false, .bool false, .int .i64 0, .int .i64 0, .int .i64 0, .int .i64 0]) (t := 57) ?hr ?_; (case hd => rfl); (case hg => rfl); (case hr => first | (go_simp; done) | (go_simp; rfl)); intro gb204 hg w8 hbox hb; have n0_ := Aside0.mk (below_step (by repeat (first | (with_reducible first | exact HB.out | apply zA_ | apply zN_ | apply zD_) | exact HB.out)) hb); have n1_ := Aside0.mk (hbox); have n2_ := Aside0.mk ((by rw [hg]; exact (below_size (by repeat (first | (with_reducible first | exact HB.out | apply zA_ | apply zN_ | apply zD_) | exact HB.out))) : w.heap.size ≤ gb204)); have n3_ := Aside0.mk ((by rw [hg]; exact (below_size (by repeat (first | (with_reducible first | exact HB.out | apply zA_ | apply zN_ | apply zD_) | exact HB.out))) : w.heap.size ≤ gb204)); clear HB; have HB := n0_; have BK204 := n1_; have GW204 := n2_; have GE204 := n3_; clear n0_ n1_ n2_ n3_; clear hb hbox hg; have hcz9_0 : w8.cell? ⟨gb204, 0, none⟩ = some (.bool false) := (blk_cell BK204.out 0).trans rfl; have hcz9_1 : w8.cell? ⟨gb204, 1, none⟩ = some (.bool false) := (blk_cell BK204.out 1).trans rfl; have hcz9_2 : w8.cell? ⟨gb204, 2, none⟩ = some (.bool false) := (blk_cell BK204.out 2).trans rfl; have hcz9_3 : w8.cell? ⟨gb204, 3, none⟩ = some (.bool false) := (blk_cell BK204.out 3).trans rfl; have hcz9_4 : w8.cell? ⟨gb204, 4, none⟩ = some (.bool false) := (blk_cell BK204.out 4).trans rfl; have hcz9_5 : w8.cell? ⟨gb204, 5, none⟩ = some (.bool false) := (blk_cell BK204.out 5).trans rfl; have hcz9_6 : w8.cell? ⟨gb204, 6, none⟩ = some (.int .i64 0) := (blk_cell BK204.out 6).trans rfl; have hcz9_7 : w8.cell? ⟨gb204, 7, none⟩ = some (.int .i64 0) := (blk_cell BK204.out 7).trans rfl; have hcz9_8 : w8.cell? ⟨gb204, 8, none⟩ = some (.int .i64 0) := (blk_cell BK204.out 8).trans rfl; have hcz9_9 : w8.cell? ⟨gb204, 9, none⟩ = some (.int .i64 0) := (blk_cell BK204.out 9).trans rfl; have hfz9_0 := blk_frozen BK204.out 0; have hfz9_1 := blk_frozen BK204.out 1; have hfz9_2 := blk_frozen BK204.out 2; have hfz9_3 := blk_frozen BK204.out 3; have hfz9_4 := blk_frozen BK204.out 4; have hfz9_5 := blk_frozen BK204.out 5; have hfz9_6 := blk_frozen BK204.out 6; have hfz9_7 := blk_frozen BK204.out 7; have hfz9_8 := blk_frozen BK204.out 8; have hfz9_9 := blk_frozen BK204.out 9) | ((with_reducible refine gate_callee (f := 38) rfl ?_); refine goesL_ (some 13) rfl rfl Tryz.func38 (by kernel_rfl) rfl #[.slice A0 l0.length c0, .string (⟨#[68, 97, 116, 101]⟩ : ByteArray), .int .i64 a1] rfl (by (try simp only [mA_, mC_, mN_]); first | done | rfl | (simp only [List.length_drop, List.length_take]; rfl)) ?_; (with_reducible refine (fresh_dated.calls k _ _ l0 (⟨#[68, 97, 116, 101]⟩ : ByteArray) a1 t205 _ ?side1 ?side2 ?side3 A4.out).mono ?_); (case side1 => exact Kd.C_below HR0.out (by repeat (first | (with_reducible first | exact HB.out | apply zA_ | apply zN_ | apply zD_ | refine below_set ?_ GE204.out) | exact HB.out))); (case side2 => exact HC0.out); (case side3 => exact WF.below HRW.out (by repeat (first | (with_reducible first | exact HB.out | apply zA_ | apply zN_ | apply zD_ | refine below_set ?_ GE204.out) | exact HB.out))); rintro e w10 ⟨rfl, hb⟩; refine ⟨_, rfl, ?_⟩; have n0_ := Aside0.mk (blk_below (g := gb204) (o := .cells #[.bool t194, .bool t195, .bool t196, .bool t197, .bool t198, .bool t199, .int .i64 t200, .int .i64 t201, .int .i64 t202, .int .i64 t203] 57 (0, 0)) (by (with_reducible repeat (first | refine bN_ ?_ _ | refine bD_ ?_ | refine bA_ ?_ _)); refine blk_put (cs := #[.bool t194, .bool t195, .bool t196, .bool t197, .bool t198, .bool t199, .int .i64 t200, .int .i64 t201, .int .i64 t202, .int .i64 0]) ?_ 9 _ rfl; (with_reducible repeat (first | refine bN_ ?_ _ | refine bD_ ?_ | refine bA_ ?_ _)); refine blk_put (cs := #[.bool t194, .bool t195, .bool t196, .bool t197, .bool t198, .bool t199, .int .i64 t200, .int .i64 t201, .int .i64 0, .int .i64 0]) ?_ 8 _ rfl; (with_reducible repeat (first | refine bN_ ?_ _ | refine bD_ ?_ | refine bA_ ?_ _)); refine blk_put (cs := #[.bool t194, .bool t195, .bool t196, .bool t197, .bool t198, .bool t199, .int .i64 t200, .int .i64 0, .int .i64 0, .int .i64 0]) ?_ 7 _ rfl; (with_reducible repeat (first | refine bN_ ?_ _ | refine bD_ ?_ | refine bA_ ?_ _)); refine blk_put (cs := #[.bool t194, .bool t195, .bool t196, .bool t197, .bool t198, .bool t199, .int .i64 0, .int .i64 0, .int .i64 0, .int .i64 0]) ?_ 6 _ rfl; (with_reducible repeat (first | refine bN_ ?_ _ | refine bD_ ?_ | refine bA_ ?_ _)); refine blk_put (cs := #[.bool t194, .bool t195, .bool t196, .bool t197, .bool t198, .bool false, .int .i64 0, .int .i64 0, .int .i64 0, .int .i64 0]) ?_ 5 _ rfl; (with_reducible repeat (first | refine bN_ ?_ _ | refine bD_ ?_ | refine bA_ ?_ _)); refine blk_put (cs := #[.bool t194, .bool t195, .bool t196, .bool t197, .bool false, .bool false, .int .i64 0, .int .i64 0, .int .i64 0, .int .i64 0]) ?_ 4 _ rfl; (with_reducible repeat (first | refine bN_ ?_ _ | refine bD_ ?_ | refine bA_ ?_ _)); refine blk_put (cs := #[.bool t194, .bool t195, .bool t196, .bool false, .bool false, .bool false, .int .i64 0, .int .i64 0, .int .i64 0, .int .i64 0]) ?_ 3 _ rfl; (with_reducible repeat (first | refine bN_ ?_ _ | refine bD_ ?_ | refine bA_ ?_ _)); refine blk_put (cs := #[.bool t194, .bool t195, .bool false, .bool false, .bool false, .bool false, .int .i64 0, .int .i64 0, .int .i64 0, .int .i64 0]) ?_ 2 _ rfl; (with_reducible repeat (first | refine bN_ ?_ _ | refine bD_ ?_ | refine bA_ ?_ _)); refine blk_put (cs := #[.bool t194, .bool false, .bool false, .bool false, .bool false, .bool false, .int .i64 0, .int .i64 0, .int .i64 0, .int .i64 0]) ?_ 1 _ rfl; (with_reducible repeat (first | refine bN_ ?_ _ | refine bD_ ?_ | refine bA_ ?_ _)); refine blk_put (cs := #[.bool false, .bool false, .bool false, .bool false, .bool false, .bool false, .int .i64 0, .int .i64 0, .int .i64 0, .int .i64 0]) ?_ 0 _ rfl; (with_reducible repeat (first | refine bN_ ?_ _ | refine bD_ ?_ | refine bA_ ?_ _)); exact BK204.out) hb); have n1_ := Aside0.mk (below_step (by repeat (first | (with_reducible first | exact HB.out | apply zA_ | apply zN_ | apply zD_ | refine below_set ?_ GE204.out) | exact HB.out)) hb); clear BK204; clear HB; have BK204 := n0_; have HB := n1_; clear n0_ n1_; (try clear hb); (try clear hb2); (try clear hk); (try clear hi)) | ((with_reducible refine gate_callee (f := 28) rfl ?_); refine goesL_ (some 16) rfl rfl Tryz.func28 (by kernel_rfl) rfl #[.slice A0 l0.length c0, .string (⟨#[69, 120, 112, 105, 114, 101, 115]⟩ : ByteArray)] rfl (by (try simp only [mA_, mC_, mN_]); first | done | rfl | (simp only [List.length_drop, List.length_take]; rfl)) ?_; (with_reducible refine (field_List_Get.calls k _ _ l0 (⟨#[69, 120, 112, 105, 114, 101, 115]⟩ : ByteArray) t206 t207 _ ?side1 ?side2 A5.out).mono ?_); (case side1 => repeat (first | exact (Kd.C_below HR0.out HB.out) | (with_reducible refine Kd.C_alloc ?_ _) | (with_reducible refine Kd.C_drewN ?_ _) | (with_reducible refine Kd.C_drew ?_))); (case side2 => exact HC0.out); rintro e w11 ⟨rfl, hb⟩; refine ⟨_, rfl, ?_⟩; have n0_ := Aside0.mk (blk_below (g := gb204) (o := .cells #[.bool t194, .bool t195, .bool t196, .bool t197, .bool t198, .bool t199, .int .i64 t200, .int .i64 t201, .int .i64 t202, .int .i64 t203] 57 (0, 0)) (by (with_reducible repeat (first | refine bN_ ?_ _ | refine bD_ ?_ | refine bA_ ?_ _)); exact BK204.out) hb); have n1_ := Aside0.mk (below_step (by repeat (first | (with_reducible first | exact HB.out | apply zA_ | apply zN_ | apply zD_ | refine below_set ?_ GE204.out) | exact HB.out)) hb); clear BK204; clear HB; have BK204 := n0_; have HB := n1_; clear n0_ n1_; (try clear hb); (try clear hb2); (try clear hk); (try clear hi); have hcz12_0 : w11.cell? ⟨gb204, 0, none⟩ = some (.bool t194) := (blk_cell BK204.out 0).trans rfl; have hcz12_1 : w11.cell? ⟨gb204, 1, none⟩ = some (.bool t195) := (blk_cell BK204.out 1).trans rfl; have hcz12_2 : w11.cell? ⟨gb204, 2, none⟩ = some (.bool t196) := (blk_cell BK204.out 2).trans rfl; have hcz12_3 : w11.cell? ⟨gb204, 3, none⟩ = some (.bool t197) := (blk_cell BK204.out 3).trans rfl; have hcz12_4 : w11.cell? ⟨gb204, 4, none⟩ = some (.bool t198) := (blk_cell BK204.out 4).trans rfl; have hcz12_5 : w11.cell? ⟨gb204, 5, none⟩ = some (.bool t199) := (blk_cell BK204.out 5).trans rfl; have hcz12_6 : w11.cell? ⟨gb204, 6, none⟩ = some (.int .i64 t200) := (blk_cell BK204.out 6).trans rfl; have hcz12_7 : w11.cell? ⟨gb204, 7, none⟩ = some (.int .i64 t201) := (blk_cell BK204.out 7).trans rfl; have hcz12_8 : w11.cell? ⟨gb204, 8, none⟩ = some (.int .i64 t202) := (blk_cell BK204.out 8).trans rfl; have hcz12_9 : w11.cell? ⟨gb204, 9, none⟩ = some (.int .i64 t203) := (blk_cell BK204.out 9).trans rfl; have hfz12_0 := blk_frozen BK204.out 0; have hfz12_1 := blk_frozen BK204.out 1; have hfz12_2 := blk_frozen BK204.out 2; have hfz12_3 := blk_frozen BK204.out 3; have hfz12_4 := blk_frozen BK204.out 4; have hfz12_5 := blk_frozen BK204.out 5; have hfz12_6 := blk_frozen BK204.out 6; have hfz12_7 := blk_frozen BK204.out 7; have hfz12_8 := blk_frozen BK204.out 8; have hfz12_9 := blk_frozen BK204.out 9))
  go_ret
  exact ⟨by first | rfl | (generalize ByteArray.toList _ = l_; cases l_ <;> rfl) | (simp [errW_none, errW_some] <;> rfl) | (simp [*, errW_none, errW_some] <;> rfl), by repeat (first | (with_reducible first | exact HB.out | apply zA_ | apply zN_ | apply zD_ | refine below_set ?_ GE204.out) | exact HB.out)⟩
 ·
  rw [if_neg c6] at H
  have c6b0 : decide (0 ≤ t201) = false := decide_eq_false c6
  clear c6
  by_cases c13 : t200 ≥ 0
  ·
   rw [if_pos c13] at H
   have c13b0 : decide (0 ≤ t200) = true := decide_eq_true c13
   clear c13
   obtain rfl := Option.some.inj H
   go_enter Tryz.func35, Tryz.ntmps35
   go_wp2_with (first | ((with_reducible refine gate_callee (f := 27) rfl ?_); refine goesL_ (some 10) rfl rfl Tryz.func27 (by kernel_rfl) rfl #[.slice A0 l0.length c0] rfl (by (try simp only [mA_, mC_, mN_]); first | done | rfl | (simp only [List.length_drop, List.length_take]; rfl)) ?_; (with_reducible refine (control_Of.calls k _ _ l0 t194 t195 t196 t197 t198 t199 t200 t201 t202 t203 _ ?side1 ?side2 A3.out).mono ?_); (case side1 => repeat (first | exact HR0.out | (with_reducible refine Kd.C_alloc ?_ _) | (with_reducible refine Kd.C_drewN ?_ _) | (with_reducible refine Kd.C_drew ?_))); (case side2 => exact HC0.out); rintro e w14 ⟨rfl, hb⟩; refine ⟨_, rfl, ?_⟩; have n0_ := Aside0.mk (below_step (by repeat (first | (with_reducible first | exact HB.out | apply zA_ | apply zN_ | apply zD_) | exact HB.out)) hb); clear HB; have HB := n0_; clear n0_; (try clear hb); (try clear hb2); (try clear hk); (try clear hi)) | ((with_reducible refine gate_dst (N := 5) rfl ?_); refine box_event ?hg (N := 5) ?hd (cs := #[.bool false, .bool false, .bool false, .bool false, .bool false, .bool false, .int .i64 0, .int .i64 0, .int .i64 0, .int .i64 0]) (t := 57) ?hr ?_; (case hd => rfl); (case hg => rfl); (case hr => first | (go_simp; done) | (go_simp; rfl)); intro gb204 hg w15 hbox hb; have n0_ := Aside0.mk (below_step (by repeat (first | (with_reducible first | exact HB.out | apply zA_ | apply zN_ | apply zD_) | exact HB.out)) hb); have n1_ := Aside0.mk (hbox); have n2_ := Aside0.mk ((by rw [hg]; exact (below_size (by repeat (first | (with_reducible first | exact HB.out | apply zA_ | apply zN_ | apply zD_) | exact HB.out))) : w.heap.size ≤ gb204)); have n3_ := Aside0.mk ((by rw [hg]; exact (below_size (by repeat (first | (with_reducible first | exact HB.out | apply zA_ | apply zN_ | apply zD_) | exact HB.out))) : w.heap.size ≤ gb204)); clear HB; have HB := n0_; have BK204 := n1_; have GW204 := n2_; have GE204 := n3_; clear n0_ n1_ n2_ n3_; clear hb hbox hg; have hcz16_0 : w15.cell? ⟨gb204, 0, none⟩ = some (.bool false) := (blk_cell BK204.out 0).trans rfl; have hcz16_1 : w15.cell? ⟨gb204, 1, none⟩ = some (.bool false) := (blk_cell BK204.out 1).trans rfl; have hcz16_2 : w15.cell? ⟨gb204, 2, none⟩ = some (.bool false) := (blk_cell BK204.out 2).trans rfl; have hcz16_3 : w15.cell? ⟨gb204, 3, none⟩ = some (.bool false) := (blk_cell BK204.out 3).trans rfl; have hcz16_4 : w15.cell? ⟨gb204, 4, none⟩ = some (.bool false) := (blk_cell BK204.out 4).trans rfl; have hcz16_5 : w15.cell? ⟨gb204, 5, none⟩ = some (.bool false) := (blk_cell BK204.out 5).trans rfl; have hcz16_6 : w15.cell? ⟨gb204, 6, none⟩ = some (.int .i64 0) := (blk_cell BK204.out 6).trans rfl; have hcz16_7 : w15.cell? ⟨gb204, 7, none⟩ = some (.int .i64 0) := (blk_cell BK204.out 7).trans rfl; have hcz16_8 : w15.cell? ⟨gb204, 8, none⟩ = some (.int .i64 0) := (blk_cell BK204.out 8).trans rfl; have hcz16_9 : w15.cell? ⟨gb204, 9, none⟩ = some (.int .i64 0) := (blk_cell BK204.out 9).trans rfl; have hfz16_0 := blk_frozen BK204.out 0; have hfz16_1 := blk_frozen BK204.out 1; have hfz16_2 := blk_frozen BK204.out 2; have hfz16_3 := blk_frozen BK204.out 3; have hfz16_4 := blk_frozen BK204.out 4; have hfz16_5 := blk_frozen BK204.out 5; have hfz16_6 := blk_frozen BK204.out 6; have hfz16_7 := blk_frozen BK204.out 7; have hfz16_8 := blk_frozen BK204.out 8; have hfz16_9 := blk_frozen BK204.out 9) | ((with_reducible refine gate_callee (f := 38) rfl ?_); refine goesL_ (some 13) rfl rfl Tryz.func38 (by kernel_rfl) rfl #[.slice A0 l0.length c0, .string (⟨#[68, 97, 116, 101]⟩ : ByteArray), .int .i64 a1] rfl (by (try simp only [mA_, mC_, mN_]); first | done | rfl | (simp only [List.length_drop, List.length_take]; rfl)) ?_; (with_reducible refine (fresh_dated.calls k _ _ l0 (⟨#[68, 97, 116, 101]⟩ : ByteArray) a1 t205 _ ?side1 ?side2 ?side3 A4.out).mono ?_); (case side1 => exact Kd.C_below HR0.out (by repeat (first | (with_reducible first | exact HB.out | apply zA_ | apply zN_ | apply zD_ | refine below_set ?_ GE204.out) | exact HB.out))); (case side2 => exact HC0.out); (case side3 => exact WF.below HRW.out (by repeat (first | (with_reducible first | exact HB.out | apply zA_ | apply zN_ | apply zD_ | refine below_set ?_ GE204.out) | exact HB.out))); rintro e w17 ⟨rfl, hb⟩; refine ⟨_, rfl, ?_⟩; have n0_ := Aside0.mk (blk_below (g := gb204) (o := .cells #[.bool t194, .bool t195, .bool t196, .bool t197, .bool t198, .bool t199, .int .i64 t200, .int .i64 t201, .int .i64 t202, .int .i64 t203] 57 (0, 0)) (by (with_reducible repeat (first | refine bN_ ?_ _ | refine bD_ ?_ | refine bA_ ?_ _)); refine blk_put (cs := #[.bool t194, .bool t195, .bool t196, .bool t197, .bool t198, .bool t199, .int .i64 t200, .int .i64 t201, .int .i64 t202, .int .i64 0]) ?_ 9 _ rfl; (with_reducible repeat (first | refine bN_ ?_ _ | refine bD_ ?_ | refine bA_ ?_ _)); refine blk_put (cs := #[.bool t194, .bool t195, .bool t196, .bool t197, .bool t198, .bool t199, .int .i64 t200, .int .i64 t201, .int .i64 0, .int .i64 0]) ?_ 8 _ rfl; (with_reducible repeat (first | refine bN_ ?_ _ | refine bD_ ?_ | refine bA_ ?_ _)); refine blk_put (cs := #[.bool t194, .bool t195, .bool t196, .bool t197, .bool t198, .bool t199, .int .i64 t200, .int .i64 0, .int .i64 0, .int .i64 0]) ?_ 7 _ rfl; (with_reducible repeat (first | refine bN_ ?_ _ | refine bD_ ?_ | refine bA_ ?_ _)); refine blk_put (cs := #[.bool t194, .bool t195, .bool t196, .bool t197, .bool t198, .bool t199, .int .i64 0, .int .i64 0, .int .i64 0, .int .i64 0]) ?_ 6 _ rfl; (with_reducible repeat (first | refine bN_ ?_ _ | refine bD_ ?_ | refine bA_ ?_ _)); refine blk_put (cs := #[.bool t194, .bool t195, .bool t196, .bool t197, .bool t198, .bool false, .int .i64 0, .int .i64 0, .int .i64 0, .int .i64 0]) ?_ 5 _ rfl; (with_reducible repeat (first | refine bN_ ?_ _ | refine bD_ ?_ | refine bA_ ?_ _)); refine blk_put (cs := #[.bool t194, .bool t195, .bool t196, .bool t197, .bool false, .bool false, .int .i64 0, .int .i64 0, .int .i64 0, .int .i64 0]) ?_ 4 _ rfl; (with_reducible repeat (first | refine bN_ ?_ _ | refine bD_ ?_ | refine bA_ ?_ _)); refine blk_put (cs := #[.bool t194, .bool t195, .bool t196, .bool false, .bool false, .bool false, .int .i64 0, .int .i64 0, .int .i64 0, .int .i64 0]) ?_ 3 _ rfl; (with_reducible repeat (first | refine bN_ ?_ _ | refine bD_ ?_ | refine bA_ ?_ _)); refine blk_put (cs := #[.bool t194, .bool t195, .bool false, .bool false, .bool false, .bool false, .int .i64 0, .int .i64 0, .int .i64 0, .int .i64 0]) ?_ 2 _ rfl; (with_reducible repeat (first | refine bN_ ?_ _ | refine bD_ ?_ | refine bA_ ?_ _)); refine blk_put (cs := #[.bool t194, .bool false, .bool false, .bool false, .bool false, .bool false, .int .i64 0, .int .i64 0, .int .i64 0, .int .i64 0]) ?_ 1 _ rfl; (with_reducible repeat (first | refine bN_ ?_ _ | refine bD_ ?_ | refine bA_ ?_ _)); refine blk_put (cs := #[.bool false, .bool false, .bool false, .bool false, .bool false, .bool false, .int .i64 0, .int .i64 0, .int .i64 0, .int .i64 0]) ?_ 0 _ rfl; (with_reducible repeat (first | refine bN_ ?_ _ | refine bD_ ?_ | refine bA_ ?_ _)); exact BK204.out) hb); have n1_ := Aside0.mk (below_step (by repeat (first | (with_reducible first | exact HB.out | apply zA_ | apply zN_ | apply zD_ | refine below_set ?_ GE204.out) | exact HB.out)) hb); clear BK204; clear HB; have BK204 := n0_; have HB := n1_; clear n0_ n1_; (try clear hb); (try clear hb2); (try clear hk); (try clear hi)) | ((with_reducible refine gate_callee (f := 28) rfl ?_); refine goesL_ (some 16) rfl rfl Tryz.func28 (by kernel_rfl) rfl #[.slice A0 l0.length c0, .string (⟨#[69, 120, 112, 105, 114, 101, 115]⟩ : ByteArray)] rfl (by (try simp only [mA_, mC_, mN_]); first | done | rfl | (simp only [List.length_drop, List.length_take]; rfl)) ?_; (with_reducible refine (field_List_Get.calls k _ _ l0 (⟨#[69, 120, 112, 105, 114, 101, 115]⟩ : ByteArray) t206 t207 _ ?side1 ?side2 A5.out).mono ?_); (case side1 => repeat (first | exact (Kd.C_below HR0.out HB.out) | (with_reducible refine Kd.C_alloc ?_ _) | (with_reducible refine Kd.C_drewN ?_ _) | (with_reducible refine Kd.C_drew ?_))); (case side2 => exact HC0.out); rintro e w18 ⟨rfl, hb⟩; refine ⟨_, rfl, ?_⟩; have n0_ := Aside0.mk (blk_below (g := gb204) (o := .cells #[.bool t194, .bool t195, .bool t196, .bool t197, .bool t198, .bool t199, .int .i64 t200, .int .i64 t201, .int .i64 t202, .int .i64 t203] 57 (0, 0)) (by (with_reducible repeat (first | refine bN_ ?_ _ | refine bD_ ?_ | refine bA_ ?_ _)); exact BK204.out) hb); have n1_ := Aside0.mk (below_step (by repeat (first | (with_reducible first | exact HB.out | apply zA_ | apply zN_ | apply zD_ | refine below_set ?_ GE204.out) | exact HB.out)) hb); clear BK204; clear HB; have BK204 := n0_; have HB := n1_; clear n0_ n1_; (try clear hb); (try clear hb2); (try clear hk); (try clear hi); have hcz19_0 : w18.cell? ⟨gb204, 0, none⟩ = some (.bool t194) := (blk_cell BK204.out 0).trans rfl; have hcz19_1 : w18.cell? ⟨gb204, 1, none⟩ = some (.bool t195) := (blk_cell BK204.out 1).trans rfl; have hcz19_2 : w18.cell? ⟨gb204, 2, none⟩ = some (.bool t196) := (blk_cell BK204.out 2).trans rfl; have hcz19_3 : w18.cell? ⟨gb204, 3, none⟩ = some (.bool t197) := (blk_cell BK204.out 3).trans rfl; have hcz19_4 : w18.cell? ⟨gb204, 4, none⟩ = some (.bool t198) := (blk_cell BK204.out 4).trans rfl; have hcz19_5 : w18.cell? ⟨gb204, 5, none⟩ = some (.bool t199) := (blk_cell BK204.out 5).trans rfl; have hcz19_6 : w18.cell? ⟨gb204, 6, none⟩ = some (.int .i64 t200) := (blk_cell BK204.out 6).trans rfl; have hcz19_7 : w18.cell? ⟨gb204, 7, none⟩ = some (.int .i64 t201) := (blk_cell BK204.out 7).trans rfl; have hcz19_8 : w18.cell? ⟨gb204, 8, none⟩ = some (.int .i64 t202) := (blk_cell BK204.out 8).trans rfl; have hcz19_9 : w18.cell? ⟨gb204, 9, none⟩ = some (.int .i64 t203) := (blk_cell BK204.out 9).trans rfl; have hfz19_0 := blk_frozen BK204.out 0; have hfz19_1 := blk_frozen BK204.out 1; have hfz19_2 := blk_frozen BK204.out 2; have hfz19_3 := blk_frozen BK204.out 3; have hfz19_4 := blk_frozen BK204.out 4; have hfz19_5 := blk_frozen BK204.out 5; have hfz19_6 := blk_frozen BK204.out 6; have hfz19_7 := blk_frozen BK204.out 7; have hfz19_8 := blk_frozen BK204.out 8; have hfz19_9 := blk_frozen BK204.out 9))
   go_ret
   exact ⟨by first | rfl | (generalize ByteArray.toList _ = l_; cases l_ <;> rfl) | (simp [errW_none, errW_some] <;> rfl) | (simp [*, errW_none, errW_some] <;> rfl), by repeat (first | (with_reducible first | exact HB.out | apply zA_ | apply zN_ | apply zD_ | refine below_set ?_ GE204.out) | exact HB.out)⟩
  ·
   rw [if_neg c13] at H
   have c13b0 : decide (0 ≤ t200) = false := decide_eq_false c13
   clear c13
   by_cases c20 : t207 = true
   ·
    subst c20
    rw [if_pos rfl] at H
    replace H := Option.bind_eq_some_iff.mp H
    obtain ⟨t208, A210, H⟩ := H
    have A21 := Aside0.mk A210
    clear A210
    obtain ⟨ji22, hji22⟩ : ∃ j_ : Int, (mx (wrap64 (t208 - t205)) 0) = j_ := ⟨_, rfl⟩
    replace H : (some ji22) = some r := by first | (rw [hji22] at H; exact H) | (simp only [hji22] at H ⊢; exact H)
    (try rw [hji22] at A3)
    (try rw [hji22] at A4)
    (try rw [hji22] at A5)
    (try rw [hji22] at A21)
    (try (have hji22l : 0 ≤ ji22 := by (rw [← hji22]; unfold mx; (repeat' split) <;> omega)))
    (try (have hji22m : 0 ≤ ji22 := by omega))
    have hji22_ : (if (wrap64 (t208 - t205)) < 0 then 0 else (wrap64 (t208 - t205))) = ji22 := hji22
    obtain rfl := Option.some.inj H
    go_enter Tryz.func35, Tryz.ntmps35
    go_wp2_with (first | ((with_reducible refine gate_callee (f := 27) rfl ?_); refine goesL_ (some 10) rfl rfl Tryz.func27 (by kernel_rfl) rfl #[.slice A0 l0.length c0] rfl (by (try simp only [mA_, mC_, mN_]); first | done | rfl | (simp only [List.length_drop, List.length_take]; rfl)) ?_; (with_reducible refine (control_Of.calls k _ _ l0 t194 t195 t196 t197 t198 t199 t200 t201 t202 t203 _ ?side1 ?side2 A3.out).mono ?_); (case side1 => repeat (first | exact HR0.out | (with_reducible refine Kd.C_alloc ?_ _) | (with_reducible refine Kd.C_drewN ?_ _) | (with_reducible refine Kd.C_drew ?_))); (case side2 => exact HC0.out); rintro e w23 ⟨rfl, hb⟩; refine ⟨_, rfl, ?_⟩; have n0_ := Aside0.mk (below_step (by repeat (first | (with_reducible first | exact HB.out | apply zA_ | apply zN_ | apply zD_) | exact HB.out)) hb); clear HB; have HB := n0_; clear n0_; (try clear hb); (try clear hb2); (try clear hk); (try clear hi)) | ((with_reducible refine gate_dst (N := 5) rfl ?_); refine box_event ?hg (N := 5) ?hd (cs := #[.bool false, .bool false, .bool false, .bool false, .bool false, .bool false, .int .i64 0, .int .i64 0, .int .i64 0, .int .i64 0]) (t := 57) ?hr ?_; (case hd => rfl); (case hg => rfl); (case hr => first | (go_simp; done) | (go_simp; rfl)); intro gb204 hg w24 hbox hb; have n0_ := Aside0.mk (below_step (by repeat (first | (with_reducible first | exact HB.out | apply zA_ | apply zN_ | apply zD_) | exact HB.out)) hb); have n1_ := Aside0.mk (hbox); have n2_ := Aside0.mk ((by rw [hg]; exact (below_size (by repeat (first | (with_reducible first | exact HB.out | apply zA_ | apply zN_ | apply zD_) | exact HB.out))) : w.heap.size ≤ gb204)); have n3_ := Aside0.mk ((by rw [hg]; exact (below_size (by repeat (first | (with_reducible first | exact HB.out | apply zA_ | apply zN_ | apply zD_) | exact HB.out))) : w.heap.size ≤ gb204)); clear HB; have HB := n0_; have BK204 := n1_; have GW204 := n2_; have GE204 := n3_; clear n0_ n1_ n2_ n3_; clear hb hbox hg; have hcz25_0 : w24.cell? ⟨gb204, 0, none⟩ = some (.bool false) := (blk_cell BK204.out 0).trans rfl; have hcz25_1 : w24.cell? ⟨gb204, 1, none⟩ = some (.bool false) := (blk_cell BK204.out 1).trans rfl; have hcz25_2 : w24.cell? ⟨gb204, 2, none⟩ = some (.bool false) := (blk_cell BK204.out 2).trans rfl; have hcz25_3 : w24.cell? ⟨gb204, 3, none⟩ = some (.bool false) := (blk_cell BK204.out 3).trans rfl; have hcz25_4 : w24.cell? ⟨gb204, 4, none⟩ = some (.bool false) := (blk_cell BK204.out 4).trans rfl; have hcz25_5 : w24.cell? ⟨gb204, 5, none⟩ = some (.bool false) := (blk_cell BK204.out 5).trans rfl; have hcz25_6 : w24.cell? ⟨gb204, 6, none⟩ = some (.int .i64 0) := (blk_cell BK204.out 6).trans rfl; have hcz25_7 : w24.cell? ⟨gb204, 7, none⟩ = some (.int .i64 0) := (blk_cell BK204.out 7).trans rfl; have hcz25_8 : w24.cell? ⟨gb204, 8, none⟩ = some (.int .i64 0) := (blk_cell BK204.out 8).trans rfl; have hcz25_9 : w24.cell? ⟨gb204, 9, none⟩ = some (.int .i64 0) := (blk_cell BK204.out 9).trans rfl; have hfz25_0 := blk_frozen BK204.out 0; have hfz25_1 := blk_frozen BK204.out 1; have hfz25_2 := blk_frozen BK204.out 2; have hfz25_3 := blk_frozen BK204.out 3; have hfz25_4 := blk_frozen BK204.out 4; have hfz25_5 := blk_frozen BK204.out 5; have hfz25_6 := blk_frozen BK204.out 6; have hfz25_7 := blk_frozen BK204.out 7; have hfz25_8 := blk_frozen BK204.out 8; have hfz25_9 := blk_frozen BK204.out 9) | ((with_reducible refine gate_callee (f := 38) rfl ?_); refine goesL_ (some 13) rfl rfl Tryz.func38 (by kernel_rfl) rfl #[.slice A0 l0.length c0, .string (⟨#[68, 97, 116, 101]⟩ : ByteArray), .int .i64 a1] rfl (by (try simp only [mA_, mC_, mN_]); first | done | rfl | (simp only [List.length_drop, List.length_take]; rfl)) ?_; (with_reducible refine (fresh_dated.calls k _ _ l0 (⟨#[68, 97, 116, 101]⟩ : ByteArray) a1 t205 _ ?side1 ?side2 ?side3 A4.out).mono ?_); (case side1 => exact Kd.C_below HR0.out (by repeat (first | (with_reducible first | exact HB.out | apply zA_ | apply zN_ | apply zD_ | refine below_set ?_ GE204.out) | exact HB.out))); (case side2 => exact HC0.out); (case side3 => exact WF.below HRW.out (by repeat (first | (with_reducible first | exact HB.out | apply zA_ | apply zN_ | apply zD_ | refine below_set ?_ GE204.out) | exact HB.out))); rintro e w26 ⟨rfl, hb⟩; refine ⟨_, rfl, ?_⟩; have n0_ := Aside0.mk (blk_below (g := gb204) (o := .cells #[.bool t194, .bool t195, .bool t196, .bool t197, .bool t198, .bool t199, .int .i64 t200, .int .i64 t201, .int .i64 t202, .int .i64 t203] 57 (0, 0)) (by (with_reducible repeat (first | refine bN_ ?_ _ | refine bD_ ?_ | refine bA_ ?_ _)); refine blk_put (cs := #[.bool t194, .bool t195, .bool t196, .bool t197, .bool t198, .bool t199, .int .i64 t200, .int .i64 t201, .int .i64 t202, .int .i64 0]) ?_ 9 _ rfl; (with_reducible repeat (first | refine bN_ ?_ _ | refine bD_ ?_ | refine bA_ ?_ _)); refine blk_put (cs := #[.bool t194, .bool t195, .bool t196, .bool t197, .bool t198, .bool t199, .int .i64 t200, .int .i64 t201, .int .i64 0, .int .i64 0]) ?_ 8 _ rfl; (with_reducible repeat (first | refine bN_ ?_ _ | refine bD_ ?_ | refine bA_ ?_ _)); refine blk_put (cs := #[.bool t194, .bool t195, .bool t196, .bool t197, .bool t198, .bool t199, .int .i64 t200, .int .i64 0, .int .i64 0, .int .i64 0]) ?_ 7 _ rfl; (with_reducible repeat (first | refine bN_ ?_ _ | refine bD_ ?_ | refine bA_ ?_ _)); refine blk_put (cs := #[.bool t194, .bool t195, .bool t196, .bool t197, .bool t198, .bool t199, .int .i64 0, .int .i64 0, .int .i64 0, .int .i64 0]) ?_ 6 _ rfl; (with_reducible repeat (first | refine bN_ ?_ _ | refine bD_ ?_ | refine bA_ ?_ _)); refine blk_put (cs := #[.bool t194, .bool t195, .bool t196, .bool t197, .bool t198, .bool false, .int .i64 0, .int .i64 0, .int .i64 0, .int .i64 0]) ?_ 5 _ rfl; (with_reducible repeat (first | refine bN_ ?_ _ | refine bD_ ?_ | refine bA_ ?_ _)); refine blk_put (cs := #[.bool t194, .bool t195, .bool t196, .bool t197, .bool false, .bool false, .int .i64 0, .int .i64 0, .int .i64 0, .int .i64 0]) ?_ 4 _ rfl; (with_reducible repeat (first | refine bN_ ?_ _ | refine bD_ ?_ | refine bA_ ?_ _)); refine blk_put (cs := #[.bool t194, .bool t195, .bool t196, .bool false, .bool false, .bool false, .int .i64 0, .int .i64 0, .int .i64 0, .int .i64 0]) ?_ 3 _ rfl; (with_reducible repeat (first | refine bN_ ?_ _ | refine bD_ ?_ | refine bA_ ?_ _)); refine blk_put (cs := #[.bool t194, .bool t195, .bool false, .bool false, .bool false, .bool false, .int .i64 0, .int .i64 0, .int .i64 0, .int .i64 0]) ?_ 2 _ rfl; (with_reducible repeat (first | refine bN_ ?_ _ | refine bD_ ?_ | refine bA_ ?_ _)); refine blk_put (cs := #[.bool t194, .bool false, .bool false, .bool false, .bool false, .bool false, .int .i64 0, .int .i64 0, .int .i64 0, .int .i64 0]) ?_ 1 _ rfl; (with_reducible repeat (first | refine bN_ ?_ _ | refine bD_ ?_ | refine bA_ ?_ _)); refine blk_put (cs := #[.bool false, .bool false, .bool false, .bool false, .bool false, .bool false, .int .i64 0, .int .i64 0, .int .i64 0, .int .i64 0]) ?_ 0 _ rfl; (with_reducible repeat (first | refine bN_ ?_ _ | refine bD_ ?_ | refine bA_ ?_ _)); exact BK204.out) hb); have n1_ := Aside0.mk (below_step (by repeat (first | (with_reducible first | exact HB.out | apply zA_ | apply zN_ | apply zD_ | refine below_set ?_ GE204.out) | exact HB.out)) hb); clear BK204; clear HB; have BK204 := n0_; have HB := n1_; clear n0_ n1_; (try clear hb); (try clear hb2); (try clear hk); (try clear hi)) | ((with_reducible refine gate_callee (f := 28) rfl ?_); refine goesL_ (some 16) rfl rfl Tryz.func28 (by kernel_rfl) rfl #[.slice A0 l0.length c0, .string (⟨#[69, 120, 112, 105, 114, 101, 115]⟩ : ByteArray)] rfl (by (try simp only [mA_, mC_, mN_]); first | done | rfl | (simp only [List.length_drop, List.length_take]; rfl)) ?_; (with_reducible refine (field_List_Get.calls k _ _ l0 (⟨#[69, 120, 112, 105, 114, 101, 115]⟩ : ByteArray) t206 true _ ?side1 ?side2 A5.out).mono ?_); (case side1 => repeat (first | exact (Kd.C_below HR0.out HB.out) | (with_reducible refine Kd.C_alloc ?_ _) | (with_reducible refine Kd.C_drewN ?_ _) | (with_reducible refine Kd.C_drew ?_))); (case side2 => exact HC0.out); rintro e w27 ⟨rfl, hb⟩; refine ⟨_, rfl, ?_⟩; have n0_ := Aside0.mk (blk_below (g := gb204) (o := .cells #[.bool t194, .bool t195, .bool t196, .bool t197, .bool t198, .bool t199, .int .i64 t200, .int .i64 t201, .int .i64 t202, .int .i64 t203] 57 (0, 0)) (by (with_reducible repeat (first | refine bN_ ?_ _ | refine bD_ ?_ | refine bA_ ?_ _)); exact BK204.out) hb); have n1_ := Aside0.mk (below_step (by repeat (first | (with_reducible first | exact HB.out | apply zA_ | apply zN_ | apply zD_ | refine below_set ?_ GE204.out) | exact HB.out)) hb); clear BK204; clear HB; have BK204 := n0_; have HB := n1_; clear n0_ n1_; (try clear hb); (try clear hb2); (try clear hk); (try clear hi); have hcz28_0 : w27.cell? ⟨gb204, 0, none⟩ = some (.bool t194) := (blk_cell BK204.out 0).trans rfl; have hcz28_1 : w27.cell? ⟨gb204, 1, none⟩ = some (.bool t195) := (blk_cell BK204.out 1).trans rfl; have hcz28_2 : w27.cell? ⟨gb204, 2, none⟩ = some (.bool t196) := (blk_cell BK204.out 2).trans rfl; have hcz28_3 : w27.cell? ⟨gb204, 3, none⟩ = some (.bool t197) := (blk_cell BK204.out 3).trans rfl; have hcz28_4 : w27.cell? ⟨gb204, 4, none⟩ = some (.bool t198) := (blk_cell BK204.out 4).trans rfl; have hcz28_5 : w27.cell? ⟨gb204, 5, none⟩ = some (.bool t199) := (blk_cell BK204.out 5).trans rfl; have hcz28_6 : w27.cell? ⟨gb204, 6, none⟩ = some (.int .i64 t200) := (blk_cell BK204.out 6).trans rfl; have hcz28_7 : w27.cell? ⟨gb204, 7, none⟩ = some (.int .i64 t201) := (blk_cell BK204.out 7).trans rfl; have hcz28_8 : w27.cell? ⟨gb204, 8, none⟩ = some (.int .i64 t202) := (blk_cell BK204.out 8).trans rfl; have hcz28_9 : w27.cell? ⟨gb204, 9, none⟩ = some (.int .i64 t203) := (blk_cell BK204.out 9).trans rfl; have hfz28_0 := blk_frozen BK204.out 0; have hfz28_1 := blk_frozen BK204.out 1; have hfz28_2 := blk_frozen BK204.out 2; have hfz28_3 := blk_frozen BK204.out 3; have hfz28_4 := blk_frozen BK204.out 4; have hfz28_5 := blk_frozen BK204.out 5; have hfz28_6 := blk_frozen BK204.out 6; have hfz28_7 := blk_frozen BK204.out 7; have hfz28_8 := blk_frozen BK204.out 8; have hfz28_9 := blk_frozen BK204.out 9) | ((with_reducible refine gate_callee (f := 38) rfl ?_); refine goesL_ (some 34) rfl rfl Tryz.func38 (by kernel_rfl) rfl #[.slice A0 l0.length c0, .string (⟨#[69, 120, 112, 105, 114, 101, 115]⟩ : ByteArray), .int .i64 0] rfl (by (try simp only [mA_, mC_, mN_]); first | done | rfl | (simp only [List.length_drop, List.length_take]; rfl)) ?_; (with_reducible refine (fresh_dated.calls k _ _ l0 (⟨#[69, 120, 112, 105, 114, 101, 115]⟩ : ByteArray) 0 t208 _ ?side1 ?side2 ?side3 A21.out).mono ?_); (case side1 => repeat (first | exact (Kd.C_below HR0.out HB.out) | (with_reducible refine Kd.C_alloc ?_ _) | (with_reducible refine Kd.C_drewN ?_ _) | (with_reducible refine Kd.C_drew ?_))); (case side2 => exact HC0.out); (case side3 => repeat (first | exact (WF.below HRW.out HB.out) | (with_reducible refine Kd.C_alloc ?_ _) | (with_reducible refine Kd.C_drewN ?_ _) | (with_reducible refine Kd.C_drew ?_))); rintro e w29 ⟨rfl, hb⟩; refine ⟨_, rfl, ?_⟩; have n0_ := Aside0.mk (blk_below (g := gb204) (o := .cells #[.bool t194, .bool t195, .bool t196, .bool t197, .bool t198, .bool t199, .int .i64 t200, .int .i64 t201, .int .i64 t202, .int .i64 t203] 57 (0, 0)) (by (with_reducible repeat (first | refine bN_ ?_ _ | refine bD_ ?_ | refine bA_ ?_ _)); exact BK204.out) hb); have n1_ := Aside0.mk (below_step (by repeat (first | (with_reducible first | exact HB.out | apply zA_ | apply zN_ | apply zD_ | refine below_set ?_ GE204.out) | exact HB.out)) hb); clear BK204; clear HB; have BK204 := n0_; have HB := n1_; clear n0_ n1_; (try clear hb); (try clear hb2); (try clear hk); (try clear hi)))
    go_ret
    exact ⟨by first | rfl | (rw [Int.tdiv_eq_ediv_of_nonneg (by assumption)]; rfl) | (simp [errW_none, errW_some] <;> rfl) | (simp only [← hji22]; first | rfl | (simp [errW_none, errW_some] <;> rfl)) | (simp [*, errW_none, errW_some] <;> rfl), by repeat (first | (with_reducible first | exact HB.out | apply zA_ | apply zN_ | apply zD_ | refine below_set ?_ GE204.out) | exact HB.out)⟩
   ·
    replace c20 := Bool.eq_false_iff.mpr c20
    subst c20
    rw [if_neg (show ¬ (false = true) by decide)] at H
    replace H := Option.bind_eq_some_iff.mp H
    obtain ⟨t209, A300, H⟩ := H
    have A30 := Aside0.mk A300
    clear A300
    obtain ⟨ji31, hji31⟩ : ∃ j_ : Int, (mx (wrap64 (t205 - t209)) 0) = j_ := ⟨_, rfl⟩
    replace H : (some (wrap64 ((ji31) / 10))) = some r := by first | (rw [hji31] at H; exact H) | (simp only [hji31] at H ⊢; exact H)
    (try rw [hji31] at A3)
    (try rw [hji31] at A4)
    (try rw [hji31] at A5)
    (try rw [hji31] at A30)
    (try (have hji31l : 0 ≤ ji31 := by (rw [← hji31]; unfold mx; (repeat' split) <;> omega)))
    (try (have hji31m : 0 ≤ ji31 := by omega))
    have hji31_ : (if (wrap64 (t205 - t209)) < 0 then 0 else (wrap64 (t205 - t209))) = ji31 := hji31
    obtain rfl := Option.some.inj H
    go_enter Tryz.func35, Tryz.ntmps35
    go_wp2_with (first | ((with_reducible refine gate_callee (f := 27) rfl ?_); refine goesL_ (some 10) rfl rfl Tryz.func27 (by kernel_rfl) rfl #[.slice A0 l0.length c0] rfl (by (try simp only [mA_, mC_, mN_]); first | done | rfl | (simp only [List.length_drop, List.length_take]; rfl)) ?_; (with_reducible refine (control_Of.calls k _ _ l0 t194 t195 t196 t197 t198 t199 t200 t201 t202 t203 _ ?side1 ?side2 A3.out).mono ?_); (case side1 => repeat (first | exact HR0.out | (with_reducible refine Kd.C_alloc ?_ _) | (with_reducible refine Kd.C_drewN ?_ _) | (with_reducible refine Kd.C_drew ?_))); (case side2 => exact HC0.out); rintro e w32 ⟨rfl, hb⟩; refine ⟨_, rfl, ?_⟩; have n0_ := Aside0.mk (below_step (by repeat (first | (with_reducible first | exact HB.out | apply zA_ | apply zN_ | apply zD_) | exact HB.out)) hb); clear HB; have HB := n0_; clear n0_; (try clear hb); (try clear hb2); (try clear hk); (try clear hi)) | ((with_reducible refine gate_dst (N := 5) rfl ?_); refine box_event ?hg (N := 5) ?hd (cs := #[.bool false, .bool false, .bool false, .bool false, .bool false, .bool false, .int .i64 0, .int .i64 0, .int .i64 0, .int .i64 0]) (t := 57) ?hr ?_; (case hd => rfl); (case hg => rfl); (case hr => first | (go_simp; done) | (go_simp; rfl)); intro gb204 hg w33 hbox hb; have n0_ := Aside0.mk (below_step (by repeat (first | (with_reducible first | exact HB.out | apply zA_ | apply zN_ | apply zD_) | exact HB.out)) hb); have n1_ := Aside0.mk (hbox); have n2_ := Aside0.mk ((by rw [hg]; exact (below_size (by repeat (first | (with_reducible first | exact HB.out | apply zA_ | apply zN_ | apply zD_) | exact HB.out))) : w.heap.size ≤ gb204)); have n3_ := Aside0.mk ((by rw [hg]; exact (below_size (by repeat (first | (with_reducible first | exact HB.out | apply zA_ | apply zN_ | apply zD_) | exact HB.out))) : w.heap.size ≤ gb204)); clear HB; have HB := n0_; have BK204 := n1_; have GW204 := n2_; have GE204 := n3_; clear n0_ n1_ n2_ n3_; clear hb hbox hg; have hcz34_0 : w33.cell? ⟨gb204, 0, none⟩ = some (.bool false) := (blk_cell BK204.out 0).trans rfl; have hcz34_1 : w33.cell? ⟨gb204, 1, none⟩ = some (.bool false) := (blk_cell BK204.out 1).trans rfl; have hcz34_2 : w33.cell? ⟨gb204, 2, none⟩ = some (.bool false) := (blk_cell BK204.out 2).trans rfl; have hcz34_3 : w33.cell? ⟨gb204, 3, none⟩ = some (.bool false) := (blk_cell BK204.out 3).trans rfl; have hcz34_4 : w33.cell? ⟨gb204, 4, none⟩ = some (.bool false) := (blk_cell BK204.out 4).trans rfl; have hcz34_5 : w33.cell? ⟨gb204, 5, none⟩ = some (.bool false) := (blk_cell BK204.out 5).trans rfl; have hcz34_6 : w33.cell? ⟨gb204, 6, none⟩ = some (.int .i64 0) := (blk_cell BK204.out 6).trans rfl; have hcz34_7 : w33.cell? ⟨gb204, 7, none⟩ = some (.int .i64 0) := (blk_cell BK204.out 7).trans rfl; have hcz34_8 : w33.cell? ⟨gb204, 8, none⟩ = some (.int .i64 0) := (blk_cell BK204.out 8).trans rfl; have hcz34_9 : w33.cell? ⟨gb204, 9, none⟩ = some (.int .i64 0) := (blk_cell BK204.out 9).trans rfl; have hfz34_0 := blk_frozen BK204.out 0; have hfz34_1 := blk_frozen BK204.out 1; have hfz34_2 := blk_frozen BK204.out 2; have hfz34_3 := blk_frozen BK204.out 3; have hfz34_4 := blk_frozen BK204.out 4; have hfz34_5 := blk_frozen BK204.out 5; have hfz34_6 := blk_frozen BK204.out 6; have hfz34_7 := blk_frozen BK204.out 7; have hfz34_8 := blk_frozen BK204.out 8; have hfz34_9 := blk_frozen BK204.out 9) | ((with_reducible refine gate_callee (f := 38) rfl ?_); refine goesL_ (some 13) rfl rfl Tryz.func38 (by kernel_rfl) rfl #[.slice A0 l0.length c0, .string (⟨#[68, 97, 116, 101]⟩ : ByteArray), .int .i64 a1] rfl (by (try simp only [mA_, mC_, mN_]); first | done | rfl | (simp only [List.length_drop, List.length_take]; rfl)) ?_; (with_reducible refine (fresh_dated.calls k _ _ l0 (⟨#[68, 97, 116, 101]⟩ : ByteArray) a1 t205 _ ?side1 ?side2 ?side3 A4.out).mono ?_); (case side1 => exact Kd.C_below HR0.out (by repeat (first | (with_reducible first | exact HB.out | apply zA_ | apply zN_ | apply zD_ | refine below_set ?_ GE204.out) | exact HB.out))); (case side2 => exact HC0.out); (case side3 => exact WF.below HRW.out (by repeat (first | (with_reducible first | exact HB.out | apply zA_ | apply zN_ | apply zD_ | refine below_set ?_ GE204.out) | exact HB.out))); rintro e w35 ⟨rfl, hb⟩; refine ⟨_, rfl, ?_⟩; have n0_ := Aside0.mk (blk_below (g := gb204) (o := .cells #[.bool t194, .bool t195, .bool t196, .bool t197, .bool t198, .bool t199, .int .i64 t200, .int .i64 t201, .int .i64 t202, .int .i64 t203] 57 (0, 0)) (by (with_reducible repeat (first | refine bN_ ?_ _ | refine bD_ ?_ | refine bA_ ?_ _)); refine blk_put (cs := #[.bool t194, .bool t195, .bool t196, .bool t197, .bool t198, .bool t199, .int .i64 t200, .int .i64 t201, .int .i64 t202, .int .i64 0]) ?_ 9 _ rfl; (with_reducible repeat (first | refine bN_ ?_ _ | refine bD_ ?_ | refine bA_ ?_ _)); refine blk_put (cs := #[.bool t194, .bool t195, .bool t196, .bool t197, .bool t198, .bool t199, .int .i64 t200, .int .i64 t201, .int .i64 0, .int .i64 0]) ?_ 8 _ rfl; (with_reducible repeat (first | refine bN_ ?_ _ | refine bD_ ?_ | refine bA_ ?_ _)); refine blk_put (cs := #[.bool t194, .bool t195, .bool t196, .bool t197, .bool t198, .bool t199, .int .i64 t200, .int .i64 0, .int .i64 0, .int .i64 0]) ?_ 7 _ rfl; (with_reducible repeat (first | refine bN_ ?_ _ | refine bD_ ?_ | refine bA_ ?_ _)); refine blk_put (cs := #[.bool t194, .bool t195, .bool t196, .bool t197, .bool t198, .bool t199, .int .i64 0, .int .i64 0, .int .i64 0, .int .i64 0]) ?_ 6 _ rfl; (with_reducible repeat (first | refine bN_ ?_ _ | refine bD_ ?_ | refine bA_ ?_ _)); refine blk_put (cs := #[.bool t194, .bool t195, .bool t196, .bool t197, .bool t198, .bool false, .int .i64 0, .int .i64 0, .int .i64 0, .int .i64 0]) ?_ 5 _ rfl; (with_reducible repeat (first | refine bN_ ?_ _ | refine bD_ ?_ | refine bA_ ?_ _)); refine blk_put (cs := #[.bool t194, .bool t195, .bool t196, .bool t197, .bool false, .bool false, .int .i64 0, .int .i64 0, .int .i64 0, .int .i64 0]) ?_ 4 _ rfl; (with_reducible repeat (first | refine bN_ ?_ _ | refine bD_ ?_ | refine bA_ ?_ _)); refine blk_put (cs := #[.bool t194, .bool t195, .bool t196, .bool false, .bool false, .bool false, .int .i64 0, .int .i64 0, .int .i64 0, .int .i64 0]) ?_ 3 _ rfl; (with_reducible repeat (first | refine bN_ ?_ _ | refine bD_ ?_ | refine bA_ ?_ _)); refine blk_put (cs := #[.bool t194, .bool t195, .bool false, .bool false, .bool false, .bool false, .int .i64 0, .int .i64 0, .int .i64 0, .int .i64 0]) ?_ 2 _ rfl; (with_reducible repeat (first | refine bN_ ?_ _ | refine bD_ ?_ | refine bA_ ?_ _)); refine blk_put (cs := #[.bool t194, .bool false, .bool false, .bool false, .bool false, .bool false, .int .i64 0, .int .i64 0, .int .i64 0, .int .i64 0]) ?_ 1 _ rfl; (with_reducible repeat (first | refine bN_ ?_ _ | refine bD_ ?_ | refine bA_ ?_ _)); refine blk_put (cs := #[.bool false, .bool false, .bool false, .bool false, .bool false, .bool false, .int .i64 0, .int .i64 0, .int .i64 0, .int .i64 0]) ?_ 0 _ rfl; (with_reducible repeat (first | refine bN_ ?_ _ | refine bD_ ?_ | refine bA_ ?_ _)); exact BK204.out) hb); have n1_ := Aside0.mk (below_step (by repeat (first | (with_reducible first | exact HB.out | apply zA_ | apply zN_ | apply zD_ | refine below_set ?_ GE204.out) | exact HB.out)) hb); clear BK204; clear HB; have BK204 := n0_; have HB := n1_; clear n0_ n1_; (try clear hb); (try clear hb2); (try clear hk); (try clear hi)) | ((with_reducible refine gate_callee (f := 28) rfl ?_); refine goesL_ (some 16) rfl rfl Tryz.func28 (by kernel_rfl) rfl #[.slice A0 l0.length c0, .string (⟨#[69, 120, 112, 105, 114, 101, 115]⟩ : ByteArray)] rfl (by (try simp only [mA_, mC_, mN_]); first | done | rfl | (simp only [List.length_drop, List.length_take]; rfl)) ?_; (with_reducible refine (field_List_Get.calls k _ _ l0 (⟨#[69, 120, 112, 105, 114, 101, 115]⟩ : ByteArray) t206 false _ ?side1 ?side2 A5.out).mono ?_); (case side1 => repeat (first | exact (Kd.C_below HR0.out HB.out) | (with_reducible refine Kd.C_alloc ?_ _) | (with_reducible refine Kd.C_drewN ?_ _) | (with_reducible refine Kd.C_drew ?_))); (case side2 => exact HC0.out); rintro e w36 ⟨rfl, hb⟩; refine ⟨_, rfl, ?_⟩; have n0_ := Aside0.mk (blk_below (g := gb204) (o := .cells #[.bool t194, .bool t195, .bool t196, .bool t197, .bool t198, .bool t199, .int .i64 t200, .int .i64 t201, .int .i64 t202, .int .i64 t203] 57 (0, 0)) (by (with_reducible repeat (first | refine bN_ ?_ _ | refine bD_ ?_ | refine bA_ ?_ _)); exact BK204.out) hb); have n1_ := Aside0.mk (below_step (by repeat (first | (with_reducible first | exact HB.out | apply zA_ | apply zN_ | apply zD_ | refine below_set ?_ GE204.out) | exact HB.out)) hb); clear BK204; clear HB; have BK204 := n0_; have HB := n1_; clear n0_ n1_; (try clear hb); (try clear hb2); (try clear hk); (try clear hi); have hcz37_0 : w36.cell? ⟨gb204, 0, none⟩ = some (.bool t194) := (blk_cell BK204.out 0).trans rfl; have hcz37_1 : w36.cell? ⟨gb204, 1, none⟩ = some (.bool t195) := (blk_cell BK204.out 1).trans rfl; have hcz37_2 : w36.cell? ⟨gb204, 2, none⟩ = some (.bool t196) := (blk_cell BK204.out 2).trans rfl; have hcz37_3 : w36.cell? ⟨gb204, 3, none⟩ = some (.bool t197) := (blk_cell BK204.out 3).trans rfl; have hcz37_4 : w36.cell? ⟨gb204, 4, none⟩ = some (.bool t198) := (blk_cell BK204.out 4).trans rfl; have hcz37_5 : w36.cell? ⟨gb204, 5, none⟩ = some (.bool t199) := (blk_cell BK204.out 5).trans rfl; have hcz37_6 : w36.cell? ⟨gb204, 6, none⟩ = some (.int .i64 t200) := (blk_cell BK204.out 6).trans rfl; have hcz37_7 : w36.cell? ⟨gb204, 7, none⟩ = some (.int .i64 t201) := (blk_cell BK204.out 7).trans rfl; have hcz37_8 : w36.cell? ⟨gb204, 8, none⟩ = some (.int .i64 t202) := (blk_cell BK204.out 8).trans rfl; have hcz37_9 : w36.cell? ⟨gb204, 9, none⟩ = some (.int .i64 t203) := (blk_cell BK204.out 9).trans rfl; have hfz37_0 := blk_frozen BK204.out 0; have hfz37_1 := blk_frozen BK204.out 1; have hfz37_2 := blk_frozen BK204.out 2; have hfz37_3 := blk_frozen BK204.out 3; have hfz37_4 := blk_frozen BK204.out 4; have hfz37_5 := blk_frozen BK204.out 5; have hfz37_6 := blk_frozen BK204.out 6; have hfz37_7 := blk_frozen BK204.out 7; have hfz37_8 := blk_frozen BK204.out 8; have hfz37_9 := blk_frozen BK204.out 9) | ((with_reducible refine gate_callee (f := 38) rfl ?_); refine goesL_ (some 41) rfl rfl Tryz.func38 (by kernel_rfl) rfl #[.slice A0 l0.length c0, .string (⟨#[76, 97, 115, 116, 45, 77, 111, 100, 105, 102, 105, 101, 100]⟩ : ByteArray), .int .i64 t205] rfl (by (try simp only [mA_, mC_, mN_]); first | done | rfl | (simp only [List.length_drop, List.length_take]; rfl)) ?_; (with_reducible refine (fresh_dated.calls k _ _ l0 (⟨#[76, 97, 115, 116, 45, 77, 111, 100, 105, 102, 105, 101, 100]⟩ : ByteArray) t205 t209 _ ?side1 ?side2 ?side3 A30.out).mono ?_); (case side1 => repeat (first | exact (Kd.C_below HR0.out HB.out) | (with_reducible refine Kd.C_alloc ?_ _) | (with_reducible refine Kd.C_drewN ?_ _) | (with_reducible refine Kd.C_drew ?_))); (case side2 => exact HC0.out); (case side3 => repeat (first | exact (WF.below HRW.out HB.out) | (with_reducible refine Kd.C_alloc ?_ _) | (with_reducible refine Kd.C_drewN ?_ _) | (with_reducible refine Kd.C_drew ?_))); rintro e w38 ⟨rfl, hb⟩; refine ⟨_, rfl, ?_⟩; have n0_ := Aside0.mk (blk_below (g := gb204) (o := .cells #[.bool t194, .bool t195, .bool t196, .bool t197, .bool t198, .bool t199, .int .i64 t200, .int .i64 t201, .int .i64 t202, .int .i64 t203] 57 (0, 0)) (by (with_reducible repeat (first | refine bN_ ?_ _ | refine bD_ ?_ | refine bA_ ?_ _)); exact BK204.out) hb); have n1_ := Aside0.mk (below_step (by repeat (first | (with_reducible first | exact HB.out | apply zA_ | apply zN_ | apply zD_ | refine below_set ?_ GE204.out) | exact HB.out)) hb); clear BK204; clear HB; have BK204 := n0_; have HB := n1_; clear n0_ n1_; (try clear hb); (try clear hb2); (try clear hk); (try clear hi)))
    go_ret
    exact ⟨by first | rfl | (rw [Int.tdiv_eq_ediv_of_nonneg (by assumption)]; rfl) | (simp [errW_none, errW_some] <;> rfl) | (simp only [← hji31]; first | rfl | (simp [errW_none, errW_some] <;> rfl)) | (simp [*, errW_none, errW_some] <;> rfl), by repeat (first | (with_reducible first | exact HB.out | apply zA_ | apply zN_ | apply zD_ | refine below_set ?_ GE204.out) | exact HB.out)⟩

end Go.Proofs.YtgpekljckdgggaaGreatDoor.PAll
