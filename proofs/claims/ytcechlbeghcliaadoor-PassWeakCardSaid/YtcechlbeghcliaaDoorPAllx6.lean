-- Text by a program of this session, over what print.py prints.
import Derived.Test.YtcechlbeghcliaaDoorPAllx0
import Derived.Test.YtcechlbeghcliaaDoorPAllx2
import Derived.Test.YtcechlbeghcliaaDoorPAllx3
import Derived.Test.YtcechlbeghcliaaDoorPAllx4
import Derived.Test.YtcechlbeghcliaaDoorPAllx5
namespace Go.Proofs.YtcechlbeghcliaaDoor.PAll
open Go.RowKit Go.Proofs.YtcechlbeghcliaaDoorW.PrintWords Go.Proofs.YtcechlbeghcliaaDoorW.PrintLast Go.Proofs.YtcechlbeghcliaaDoorW.PrintMore
attribute [local go_sem] max2_int min2_int max_two min_two max_three min_three max_four min_four   -- for this text's walks alone
set_option linter.unusedVariables false
set_option linter.unusedSimpArgs false

/-! ### date_Read: function 66 -/
mutual
def date_Read.j0 : Nat → ByteArray → Int → Int → Int → Int → Int → Int → Bool → Option (Int × Int)
  | 0, _, _, _, _, _, _, _, _ => none
  | k + 1, x0, x4, x5, x6, x7, x8, x9, x79 => if x79 = true then (some (0, 14)) else ((date_before.f x5).bind fun t200 => (date_Read.l0 k x0 x4 x5 x7 x8 x9 (wrap64 ((wrap64 (t200 + x6)) - 1)) 1))
def date_Read.l0 : Nat → ByteArray → Int → Int → Int → Int → Int → Int → Int → Option (Int × Int)
  | 0, _, _, _, _, _, _, _, _ => none
  | k + 1, x0, x4, x5, x7, x8, x9, x10, x11 => if x11 ≤ (wrap64 (Int.tdiv x4 3)) then ((date_Days.f k x5 x11).bind fun t201 => (date_Read.l0 k x0 x4 x5 x7 x8 x9 (wrap64 (x10 + t201)) (wrap64 (x11 + 1)))) else ((date_Show.f k (wrap64 ((wrap64 ((wrap64 ((wrap64 (x10 * 86400)) + (wrap64 (x7 * 3600)))) + (wrap64 (x8 * 60)))) + x9))).bind fun bt202 => (if bt202.1.toList = x0.toList then (some (wrap64 ((wrap64 ((wrap64 ((wrap64 (x10 * 86400)) + (wrap64 (x7 * 3600)))) + (wrap64 (x8 * 60)))) + x9), 0)) else (some (0, 14))))
end
def date_Read.f (k : Nat) (a0 : ByteArray) : Option (Int × Int) := if (a0.size : Int) = 29 then (if 8 ≤ 11 then (if 11 ≤ (a0.size : Int) then ((strings_Index.f (⟨#[74, 97, 110, 70, 101, 98, 77, 97, 114, 65, 112, 114, 77, 97, 121, 74, 117, 110, 74, 117, 108, 65, 117, 103, 83, 101, 112, 79, 99, 116, 78, 111, 118, 68, 101, 99]⟩ : ByteArray) (a0.extract 8 11)).bind fun t193 => (if 12 ≤ 16 then (if 16 ≤ (a0.size : Int) then ((date_digits.f k (a0.extract 12 16)).bind fun t194 => (if 5 ≤ 7 then (if 7 ≤ (a0.size : Int) then ((date_digits.f k (a0.extract 5 7)).bind fun t195 => (if 17 ≤ 19 then (if 19 ≤ (a0.size : Int) then ((date_digits.f k (a0.extract 17 19)).bind fun t196 => (if 20 ≤ 22 then (if 22 ≤ (a0.size : Int) then ((date_digits.f k (a0.extract 20 22)).bind fun t197 => (if 23 ≤ 25 then (if 25 ≤ (a0.size : Int) then ((date_digits.f k (a0.extract 23 25)).bind fun t198 => (if t193 < 0 then (date_Read.j0 k a0 t193 t194 t195 t196 t197 t198 true) else (if (Int.tmod t193 3) = 0 then (if t195 < 1 then (date_Read.j0 k a0 t193 t194 t195 t196 t197 t198 true) else ((date_Days.f k t194 (wrap64 ((wrap64 (Int.tdiv t193 3)) + 1))).bind fun t199 => (if t195 > t199 then (date_Read.j0 k a0 t193 t194 t195 t196 t197 t198 true) else (if t196 < 0 then (date_Read.j0 k a0 t193 t194 t195 t196 t197 t198 true) else (if t196 > 23 then (date_Read.j0 k a0 t193 t194 t195 t196 t197 t198 true) else (if t197 < 0 then (date_Read.j0 k a0 t193 t194 t195 t196 t197 t198 true) else (if t197 > 59 then (date_Read.j0 k a0 t193 t194 t195 t196 t197 t198 true) else (if t198 < 0 then (date_Read.j0 k a0 t193 t194 t195 t196 t197 t198 true) else (date_Read.j0 k a0 t193 t194 t195 t196 t197 t198 (decide (t198 > 59))))))))))) else (date_Read.j0 k a0 t193 t194 t195 t196 t197 t198 true)))) else (none)) else (none))) else (none)) else (none))) else (none)) else (none))) else (none)) else (none))) else (none)) else (none))) else (none)) else (none)) else (some (0, 14))
theorem date_Read.mono_l : ∀ k, (∀ y0 y1 y2 y3 y4 y5 y6 y7, LeO (date_Read.j0 k y0 y1 y2 y3 y4 y5 y6 y7) (date_Read.j0 (k + 1) y0 y1 y2 y3 y4 y5 y6 y7)) ∧ (∀ y0 y1 y2 y3 y4 y5 y6 y7, LeO (date_Read.l0 k y0 y1 y2 y3 y4 y5 y6 y7) (date_Read.l0 (k + 1) y0 y1 y2 y3 y4 y5 y6 y7))
  | 0 => ⟨fun _ _ _ _ _ _ _ _ r h => by simp [date_Read.j0] at h, fun _ _ _ _ _ _ _ _ r h => by simp [date_Read.l0] at h⟩
  | k + 1 => by
    obtain ⟨ih0, ih1⟩ := date_Read.mono_l k
    refine ⟨?_, ?_⟩
    · intro y0 y1 y2 y3 y4 y5 y6 y7
      unfold date_Read.j0
      repeat' first
      | (with_reducible exact ih0 _ _ _ _ _ _ _ _)
      | (with_reducible exact ih1 _ _ _ _ _ _ _ _)
      | (with_reducible exact date_Days.mono _ _ _)
      | (with_reducible exact date_Show.mono _ _)
      | (with_reducible exact date_digits.mono _ _)
      | (with_reducible exact LeO.refl _)
      | (with_reducible exact LeO.none _)
      | (with_reducible refine LeO.ite ?_ ?_)
      | (with_reducible refine LeO.bind ?_ (fun _ => ?_))
      | exact ih0 _ _ _ _ _ _ _ _
      | exact ih1 _ _ _ _ _ _ _ _
      | exact date_Days.mono _ _ _
      | exact date_Show.mono _ _
      | exact date_digits.mono _ _
      | exact LeO.none _
      | refine LeO.ite ?_ ?_
      | refine LeO.bind ?_ (fun _ => ?_)
    · intro y0 y1 y2 y3 y4 y5 y6 y7
      unfold date_Read.l0
      repeat' first
      | (with_reducible exact ih0 _ _ _ _ _ _ _ _)
      | (with_reducible exact ih1 _ _ _ _ _ _ _ _)
      | (with_reducible exact date_Days.mono _ _ _)
      | (with_reducible exact date_Show.mono _ _)
      | (with_reducible exact date_digits.mono _ _)
      | (with_reducible exact LeO.refl _)
      | (with_reducible exact LeO.none _)
      | (with_reducible refine LeO.ite ?_ ?_)
      | (with_reducible refine LeO.bind ?_ (fun _ => ?_))
      | exact ih0 _ _ _ _ _ _ _ _
      | exact ih1 _ _ _ _ _ _ _ _
      | exact date_Days.mono _ _ _
      | exact date_Show.mono _ _
      | exact date_digits.mono _ _
      | exact LeO.none _
      | refine LeO.ite ?_ ?_
      | refine LeO.bind ?_ (fun _ => ?_)
theorem date_Read.mono : ∀ a0 k, LeO (date_Read.f k a0) (date_Read.f (k + 1) a0) := by
  intro a0 k
  obtain ⟨ih0, ih1⟩ := date_Read.mono_l k
  unfold date_Read.f
  repeat' first
      | (with_reducible exact ih0 _ _ _ _ _ _ _ _)
      | (with_reducible exact ih1 _ _ _ _ _ _ _ _)
      | (with_reducible exact date_Days.mono _ _ _)
      | (with_reducible exact date_Show.mono _ _)
      | (with_reducible exact date_digits.mono _ _)
      | (with_reducible exact LeO.refl _)
      | (with_reducible exact LeO.none _)
      | (with_reducible refine LeO.ite ?_ ?_)
      | (with_reducible refine LeO.bind ?_ (fun _ => ?_))
      | exact ih0 _ _ _ _ _ _ _ _
      | exact ih1 _ _ _ _ _ _ _ _
      | exact date_Days.mono _ _ _
      | exact date_Show.mono _ _
      | exact date_digits.mono _ _
      | exact LeO.none _
      | refine LeO.ite ?_ ?_
      | refine LeO.bind ?_ (fun _ => ?_)
set_option maxHeartbeats 8000000 in
set_option maxRecDepth 100000 in
theorem date_Read.calls (k : Nat) (a0 : ByteArray) (r1 : Int) (r2 : Int) (w : World) (hrW : WF w) (h : date_Read.f k a0 = some (r1, r2)) :
    Calls Tryd.prog 66 #[.string a0] w fun e w' => e = .returned (.tuple #[.int .i64 r1, .int .i64 r2]) ∧ Below w.heap.size w w' := by
  have HRW := Aside0.mk hrW
  clear hrW
  have HB := Aside0.mk (Below.refl w.heap.size w)
  have H : (if (a0.size : Int) = 29 then (if 8 ≤ 11 then (if 11 ≤ (a0.size : Int) then ((strings_Index.f (⟨#[74, 97, 110, 70, 101, 98, 77, 97, 114, 65, 112, 114, 77, 97, 121, 74, 117, 110, 74, 117, 108, 65, 117, 103, 83, 101, 112, 79, 99, 116, 78, 111, 118, 68, 101, 99]⟩ : ByteArray) (a0.extract 8 11)).bind fun t193 => (if 12 ≤ 16 then (if 16 ≤ (a0.size : Int) then ((date_digits.f k (a0.extract 12 16)).bind fun t194 => (if 5 ≤ 7 then (if 7 ≤ (a0.size : Int) then ((date_digits.f k (a0.extract 5 7)).bind fun t195 => (if 17 ≤ 19 then (if 19 ≤ (a0.size : Int) then ((date_digits.f k (a0.extract 17 19)).bind fun t196 => (if 20 ≤ 22 then (if 22 ≤ (a0.size : Int) then ((date_digits.f k (a0.extract 20 22)).bind fun t197 => (if 23 ≤ 25 then (if 25 ≤ (a0.size : Int) then ((date_digits.f k (a0.extract 23 25)).bind fun t198 => (if t193 < 0 then (date_Read.j0 k a0 t193 t194 t195 t196 t197 t198 true) else (if (Int.tmod t193 3) = 0 then (if t195 < 1 then (date_Read.j0 k a0 t193 t194 t195 t196 t197 t198 true) else ((date_Days.f k t194 (wrap64 ((wrap64 (Int.tdiv t193 3)) + 1))).bind fun t199 => (if t195 > t199 then (date_Read.j0 k a0 t193 t194 t195 t196 t197 t198 true) else (if t196 < 0 then (date_Read.j0 k a0 t193 t194 t195 t196 t197 t198 true) else (if t196 > 23 then (date_Read.j0 k a0 t193 t194 t195 t196 t197 t198 true) else (if t197 < 0 then (date_Read.j0 k a0 t193 t194 t195 t196 t197 t198 true) else (if t197 > 59 then (date_Read.j0 k a0 t193 t194 t195 t196 t197 t198 true) else (if t198 < 0 then (date_Read.j0 k a0 t193 t194 t195 t196 t197 t198 true) else (date_Read.j0 k a0 t193 t194 t195 t196 t197 t198 (decide (t198 > 59))))))))))) else (date_Read.j0 k a0 t193 t194 t195 t196 t197 t198 true)))) else (none)) else (none))) else (none)) else (none))) else (none)) else (none))) else (none)) else (none))) else (none)) else (none))) else (none)) else (none)) else (some (0, 14))) = some (r1, r2) := h
  clear h
  by_cases c2 : (a0.size : Int) = 29
  · rw [if_pos c2] at H
    have c2b0 : ((a0.size : Int) == 29) = true := beq_iff_eq.mpr c2
    have c2b1 : ((a0.size : Int) != 29) = false := bne_eq_false_iff_eq.mpr c2
    clear c2
    by_cases c3 : 8 ≤ 11
    · rw [if_pos c3] at H
      have c3b0 := eq_true c3
      have c3b1 : decide (8 ≤ 11) = true := decide_eq_true c3
      clear c3
      by_cases c4 : 11 ≤ (a0.size : Int)
      · rw [if_pos c4] at H
        have c4b0 := eq_true c4
        have c4b1 : decide (11 ≤ (a0.size : Int)) = true := decide_eq_true c4
        clear c4
        replace H := Option.bind_eq_some_iff.mp H
        obtain ⟨t193, A50, H⟩ := H
        replace H : (if 12 ≤ 16 then (if 16 ≤ (a0.size : Int) then ((date_digits.f k (a0.extract 12 16)).bind fun t194 => (if 5 ≤ 7 then (if 7 ≤ (a0.size : Int) then ((date_digits.f k (a0.extract 5 7)).bind fun t195 => (if 17 ≤ 19 then (if 19 ≤ (a0.size : Int) then ((date_digits.f k (a0.extract 17 19)).bind fun t196 => (if 20 ≤ 22 then (if 22 ≤ (a0.size : Int) then ((date_digits.f k (a0.extract 20 22)).bind fun t197 => (if 23 ≤ 25 then (if 25 ≤ (a0.size : Int) then ((date_digits.f k (a0.extract 23 25)).bind fun t198 => (if t193 < 0 then (date_Read.j0 k a0 t193 t194 t195 t196 t197 t198 true) else (if (Int.tmod t193 3) = 0 then (if t195 < 1 then (date_Read.j0 k a0 t193 t194 t195 t196 t197 t198 true) else ((date_Days.f k t194 (wrap64 ((wrap64 (Int.tdiv t193 3)) + 1))).bind fun t199 => (if t195 > t199 then (date_Read.j0 k a0 t193 t194 t195 t196 t197 t198 true) else (if t196 < 0 then (date_Read.j0 k a0 t193 t194 t195 t196 t197 t198 true) else (if t196 > 23 then (date_Read.j0 k a0 t193 t194 t195 t196 t197 t198 true) else (if t197 < 0 then (date_Read.j0 k a0 t193 t194 t195 t196 t197 t198 true) else (if t197 > 59 then (date_Read.j0 k a0 t193 t194 t195 t196 t197 t198 true) else (if t198 < 0 then (date_Read.j0 k a0 t193 t194 t195 t196 t197 t198 true) else (date_Read.j0 k a0 t193 t194 t195 t196 t197 t198 (decide (t198 > 59))))))))))) else (date_Read.j0 k a0 t193 t194 t195 t196 t197 t198 true)))) else (none)) else (none))) else (none)) else (none))) else (none)) else (none))) else (none)) else (none))) else (none)) else (none)) = some (r1, r2) := H
        have A5 := Aside0.mk A50
        clear A50
        by_cases c6 : 12 ≤ 16
        · rw [if_pos c6] at H
          have c6b0 := eq_true c6
          have c6b1 : decide (12 ≤ 16) = true := decide_eq_true c6
          clear c6
          by_cases c7 : 16 ≤ (a0.size : Int)
          · rw [if_pos c7] at H
            have c7b0 := eq_true c7
            have c7b1 : decide (16 ≤ (a0.size : Int)) = true := decide_eq_true c7
            clear c7
            replace H := Option.bind_eq_some_iff.mp H
            obtain ⟨t194, A80, H⟩ := H
            replace H : (if 5 ≤ 7 then (if 7 ≤ (a0.size : Int) then ((date_digits.f k (a0.extract 5 7)).bind fun t195 => (if 17 ≤ 19 then (if 19 ≤ (a0.size : Int) then ((date_digits.f k (a0.extract 17 19)).bind fun t196 => (if 20 ≤ 22 then (if 22 ≤ (a0.size : Int) then ((date_digits.f k (a0.extract 20 22)).bind fun t197 => (if 23 ≤ 25 then (if 25 ≤ (a0.size : Int) then ((date_digits.f k (a0.extract 23 25)).bind fun t198 => (if t193 < 0 then (date_Read.j0 k a0 t193 t194 t195 t196 t197 t198 true) else (if (Int.tmod t193 3) = 0 then (if t195 < 1 then (date_Read.j0 k a0 t193 t194 t195 t196 t197 t198 true) else ((date_Days.f k t194 (wrap64 ((wrap64 (Int.tdiv t193 3)) + 1))).bind fun t199 => (if t195 > t199 then (date_Read.j0 k a0 t193 t194 t195 t196 t197 t198 true) else (if t196 < 0 then (date_Read.j0 k a0 t193 t194 t195 t196 t197 t198 true) else (if t196 > 23 then (date_Read.j0 k a0 t193 t194 t195 t196 t197 t198 true) else (if t197 < 0 then (date_Read.j0 k a0 t193 t194 t195 t196 t197 t198 true) else (if t197 > 59 then (date_Read.j0 k a0 t193 t194 t195 t196 t197 t198 true) else (if t198 < 0 then (date_Read.j0 k a0 t193 t194 t195 t196 t197 t198 true) else (date_Read.j0 k a0 t193 t194 t195 t196 t197 t198 (decide (t198 > 59))))))))))) else (date_Read.j0 k a0 t193 t194 t195 t196 t197 t198 true)))) else (none)) else (none))) else (none)) else (none))) else (none)) else (none))) else (none)) else (none)) = some (r1, r2) := H
            have A8 := Aside0.mk A80
            clear A80
            by_cases c9 : 5 ≤ 7
            · rw [if_pos c9] at H
              have c9b0 := eq_true c9
              have c9b1 : decide (5 ≤ 7) = true := decide_eq_true c9
              clear c9
              by_cases c10 : 7 ≤ (a0.size : Int)
              · rw [if_pos c10] at H
                have c10b0 := eq_true c10
                have c10b1 : decide (7 ≤ (a0.size : Int)) = true := decide_eq_true c10
                clear c10
                replace H := Option.bind_eq_some_iff.mp H
                obtain ⟨t195, A110, H⟩ := H
                replace H : (if 17 ≤ 19 then (if 19 ≤ (a0.size : Int) then ((date_digits.f k (a0.extract 17 19)).bind fun t196 => (if 20 ≤ 22 then (if 22 ≤ (a0.size : Int) then ((date_digits.f k (a0.extract 20 22)).bind fun t197 => (if 23 ≤ 25 then (if 25 ≤ (a0.size : Int) then ((date_digits.f k (a0.extract 23 25)).bind fun t198 => (if t193 < 0 then (date_Read.j0 k a0 t193 t194 t195 t196 t197 t198 true) else (if (Int.tmod t193 3) = 0 then (if t195 < 1 then (date_Read.j0 k a0 t193 t194 t195 t196 t197 t198 true) else ((date_Days.f k t194 (wrap64 ((wrap64 (Int.tdiv t193 3)) + 1))).bind fun t199 => (if t195 > t199 then (date_Read.j0 k a0 t193 t194 t195 t196 t197 t198 true) else (if t196 < 0 then (date_Read.j0 k a0 t193 t194 t195 t196 t197 t198 true) else (if t196 > 23 then (date_Read.j0 k a0 t193 t194 t195 t196 t197 t198 true) else (if t197 < 0 then (date_Read.j0 k a0 t193 t194 t195 t196 t197 t198 true) else (if t197 > 59 then (date_Read.j0 k a0 t193 t194 t195 t196 t197 t198 true) else (if t198 < 0 then (date_Read.j0 k a0 t193 t194 t195 t196 t197 t198 true) else (date_Read.j0 k a0 t193 t194 t195 t196 t197 t198 (decide (t198 > 59))))))))))) else (date_Read.j0 k a0 t193 t194 t195 t196 t197 t198 true)))) else (none)) else (none))) else (none)) else (none))) else (none)) else (none)) = some (r1, r2) := H
                have A11 := Aside0.mk A110
                clear A110
                by_cases c12 : 17 ≤ 19
                · rw [if_pos c12] at H
                  have c12b0 := eq_true c12
                  have c12b1 : decide (17 ≤ 19) = true := decide_eq_true c12
                  clear c12
                  by_cases c13 : 19 ≤ (a0.size : Int)
                  · rw [if_pos c13] at H
                    have c13b0 := eq_true c13
                    have c13b1 : decide (19 ≤ (a0.size : Int)) = true := decide_eq_true c13
                    clear c13
                    replace H := Option.bind_eq_some_iff.mp H
                    obtain ⟨t196, A140, H⟩ := H
                    replace H : (if 20 ≤ 22 then (if 22 ≤ (a0.size : Int) then ((date_digits.f k (a0.extract 20 22)).bind fun t197 => (if 23 ≤ 25 then (if 25 ≤ (a0.size : Int) then ((date_digits.f k (a0.extract 23 25)).bind fun t198 => (if t193 < 0 then (date_Read.j0 k a0 t193 t194 t195 t196 t197 t198 true) else (if (Int.tmod t193 3) = 0 then (if t195 < 1 then (date_Read.j0 k a0 t193 t194 t195 t196 t197 t198 true) else ((date_Days.f k t194 (wrap64 ((wrap64 (Int.tdiv t193 3)) + 1))).bind fun t199 => (if t195 > t199 then (date_Read.j0 k a0 t193 t194 t195 t196 t197 t198 true) else (if t196 < 0 then (date_Read.j0 k a0 t193 t194 t195 t196 t197 t198 true) else (if t196 > 23 then (date_Read.j0 k a0 t193 t194 t195 t196 t197 t198 true) else (if t197 < 0 then (date_Read.j0 k a0 t193 t194 t195 t196 t197 t198 true) else (if t197 > 59 then (date_Read.j0 k a0 t193 t194 t195 t196 t197 t198 true) else (if t198 < 0 then (date_Read.j0 k a0 t193 t194 t195 t196 t197 t198 true) else (date_Read.j0 k a0 t193 t194 t195 t196 t197 t198 (decide (t198 > 59))))))))))) else (date_Read.j0 k a0 t193 t194 t195 t196 t197 t198 true)))) else (none)) else (none))) else (none)) else (none)) = some (r1, r2) := H
                    have A14 := Aside0.mk A140
                    clear A140
                    by_cases c15 : 20 ≤ 22
                    · rw [if_pos c15] at H
                      have c15b0 := eq_true c15
                      have c15b1 : decide (20 ≤ 22) = true := decide_eq_true c15
                      clear c15
                      by_cases c16 : 22 ≤ (a0.size : Int)
                      · rw [if_pos c16] at H
                        have c16b0 := eq_true c16
                        have c16b1 : decide (22 ≤ (a0.size : Int)) = true := decide_eq_true c16
                        clear c16
                        replace H := Option.bind_eq_some_iff.mp H
                        obtain ⟨t197, A170, H⟩ := H
                        replace H : (if 23 ≤ 25 then (if 25 ≤ (a0.size : Int) then ((date_digits.f k (a0.extract 23 25)).bind fun t198 => (if t193 < 0 then (date_Read.j0 k a0 t193 t194 t195 t196 t197 t198 true) else (if (Int.tmod t193 3) = 0 then (if t195 < 1 then (date_Read.j0 k a0 t193 t194 t195 t196 t197 t198 true) else ((date_Days.f k t194 (wrap64 ((wrap64 (Int.tdiv t193 3)) + 1))).bind fun t199 => (if t195 > t199 then (date_Read.j0 k a0 t193 t194 t195 t196 t197 t198 true) else (if t196 < 0 then (date_Read.j0 k a0 t193 t194 t195 t196 t197 t198 true) else (if t196 > 23 then (date_Read.j0 k a0 t193 t194 t195 t196 t197 t198 true) else (if t197 < 0 then (date_Read.j0 k a0 t193 t194 t195 t196 t197 t198 true) else (if t197 > 59 then (date_Read.j0 k a0 t193 t194 t195 t196 t197 t198 true) else (if t198 < 0 then (date_Read.j0 k a0 t193 t194 t195 t196 t197 t198 true) else (date_Read.j0 k a0 t193 t194 t195 t196 t197 t198 (decide (t198 > 59))))))))))) else (date_Read.j0 k a0 t193 t194 t195 t196 t197 t198 true)))) else (none)) else (none)) = some (r1, r2) := H
                        have A17 := Aside0.mk A170
                        clear A170
                        by_cases c18 : 23 ≤ 25
                        · rw [if_pos c18] at H
                          have c18b0 := eq_true c18
                          have c18b1 : decide (23 ≤ 25) = true := decide_eq_true c18
                          clear c18
                          by_cases c19 : 25 ≤ (a0.size : Int)
                          · rw [if_pos c19] at H
                            have c19b0 := eq_true c19
                            have c19b1 : decide (25 ≤ (a0.size : Int)) = true := decide_eq_true c19
                            clear c19
                            replace H := Option.bind_eq_some_iff.mp H
                            obtain ⟨t198, A200, H⟩ := H
                            replace H : (if t193 < 0 then (date_Read.j0 k a0 t193 t194 t195 t196 t197 t198 true) else (if (Int.tmod t193 3) = 0 then (if t195 < 1 then (date_Read.j0 k a0 t193 t194 t195 t196 t197 t198 true) else ((date_Days.f k t194 (wrap64 ((wrap64 (Int.tdiv t193 3)) + 1))).bind fun t199 => (if t195 > t199 then (date_Read.j0 k a0 t193 t194 t195 t196 t197 t198 true) else (if t196 < 0 then (date_Read.j0 k a0 t193 t194 t195 t196 t197 t198 true) else (if t196 > 23 then (date_Read.j0 k a0 t193 t194 t195 t196 t197 t198 true) else (if t197 < 0 then (date_Read.j0 k a0 t193 t194 t195 t196 t197 t198 true) else (if t197 > 59 then (date_Read.j0 k a0 t193 t194 t195 t196 t197 t198 true) else (if t198 < 0 then (date_Read.j0 k a0 t193 t194 t195 t196 t197 t198 true) else (date_Read.j0 k a0 t193 t194 t195 t196 t197 t198 (decide (t198 > 59))))))))))) else (date_Read.j0 k a0 t193 t194 t195 t196 t197 t198 true))) = some (r1, r2) := H
                            have A20 := Aside0.mk A200
                            clear A200
                            have HC21 := Aside0.mk H
                            clear H
                            go_enter Tryd.func66, Tryd.ntmps66
                            go_upto_region 6 with (first | (go_at_call 75; (with_reducible refine (strings_Index.calls (⟨#[74, 97, 110, 70, 101, 98, 77, 97, 114, 65, 112, 114, 77, 97, 121, 74, 117, 110, 74, 117, 108, 65, 117, 103, 83, 101, 112, 79, 99, 116, 78, 111, 118, 68, 101, 99]⟩ : ByteArray) (a0.extract 8 11) t193 _ ?side1 A5.out).mono ?_); (case side1 => repeat (first | exact HRW.out | (with_reducible refine Kd.C_alloc ?_ _) | (with_reducible refine Kd.C_drewN ?_ _) | (with_reducible refine Kd.C_drew ?_))); rintro e w' ⟨rfl, ⟨nd, rfl⟩⟩; (try first | exact ⟨rfl, _, World.drewN_drewN _ _ _⟩ | exact ⟨rfl, _, Eq.trans (World.drewN_drewN _ _ _) (congrArg (World.drewN _) (Nat.add_assoc _ _ _))⟩)) | (go_at_call 76; (with_reducible refine (date_digits.calls k (a0.extract 12 16) t194 _ A8.out).mono ?_); rintro e w' ⟨rfl, ⟨nd, rfl⟩⟩; (try first | exact ⟨rfl, _, World.drewN_drewN _ _ _⟩ | exact ⟨rfl, _, Eq.trans (World.drewN_drewN _ _ _) (congrArg (World.drewN _) (Nat.add_assoc _ _ _))⟩)) | (go_at_call 76; (with_reducible refine (date_digits.calls k (a0.extract 5 7) t195 _ A11.out).mono ?_); rintro e w' ⟨rfl, ⟨nd, rfl⟩⟩; (try first | exact ⟨rfl, _, World.drewN_drewN _ _ _⟩ | exact ⟨rfl, _, Eq.trans (World.drewN_drewN _ _ _) (congrArg (World.drewN _) (Nat.add_assoc _ _ _))⟩)) | (go_at_call 76; (with_reducible refine (date_digits.calls k (a0.extract 17 19) t196 _ A14.out).mono ?_); rintro e w' ⟨rfl, ⟨nd, rfl⟩⟩; (try first | exact ⟨rfl, _, World.drewN_drewN _ _ _⟩ | exact ⟨rfl, _, Eq.trans (World.drewN_drewN _ _ _) (congrArg (World.drewN _) (Nat.add_assoc _ _ _))⟩)) | (go_at_call 76; (with_reducible refine (date_digits.calls k (a0.extract 20 22) t197 _ A17.out).mono ?_); rintro e w' ⟨rfl, ⟨nd, rfl⟩⟩; (try first | exact ⟨rfl, _, World.drewN_drewN _ _ _⟩ | exact ⟨rfl, _, Eq.trans (World.drewN_drewN _ _ _) (congrArg (World.drewN _) (Nat.add_assoc _ _ _))⟩)) | (go_at_call 76; (with_reducible refine (date_digits.calls k (a0.extract 23 25) t198 _ A20.out).mono ?_); rintro e w' ⟨rfl, ⟨nd, rfl⟩⟩; (try first | exact ⟨rfl, _, World.drewN_drewN _ _ _⟩ | exact ⟨rfl, _, Eq.trans (World.drewN_drewN _ _ _) (congrArg (World.drewN _) (Nat.add_assoc _ _ _))⟩)))
                            repeat (go_quiet (first | (go_at_call 75; (with_reducible refine (strings_Index.calls (⟨#[74, 97, 110, 70, 101, 98, 77, 97, 114, 65, 112, 114, 77, 97, 121, 74, 117, 110, 74, 117, 108, 65, 117, 103, 83, 101, 112, 79, 99, 116, 78, 111, 118, 68, 101, 99]⟩ : ByteArray) (a0.extract 8 11) t193 _ ?side1 A5.out).mono ?_); (case side1 => repeat (first | exact HRW.out | (with_reducible refine Kd.C_alloc ?_ _) | (with_reducible refine Kd.C_drewN ?_ _) | (with_reducible refine Kd.C_drew ?_))); rintro e w' ⟨rfl, ⟨nd, rfl⟩⟩; (try first | exact ⟨rfl, _, World.drewN_drewN _ _ _⟩ | exact ⟨rfl, _, Eq.trans (World.drewN_drewN _ _ _) (congrArg (World.drewN _) (Nat.add_assoc _ _ _))⟩)) | (go_at_call 76; (with_reducible refine (date_digits.calls k (a0.extract 12 16) t194 _ A8.out).mono ?_); rintro e w' ⟨rfl, ⟨nd, rfl⟩⟩; (try first | exact ⟨rfl, _, World.drewN_drewN _ _ _⟩ | exact ⟨rfl, _, Eq.trans (World.drewN_drewN _ _ _) (congrArg (World.drewN _) (Nat.add_assoc _ _ _))⟩)) | (go_at_call 76; (with_reducible refine (date_digits.calls k (a0.extract 5 7) t195 _ A11.out).mono ?_); rintro e w' ⟨rfl, ⟨nd, rfl⟩⟩; (try first | exact ⟨rfl, _, World.drewN_drewN _ _ _⟩ | exact ⟨rfl, _, Eq.trans (World.drewN_drewN _ _ _) (congrArg (World.drewN _) (Nat.add_assoc _ _ _))⟩)) | (go_at_call 76; (with_reducible refine (date_digits.calls k (a0.extract 17 19) t196 _ A14.out).mono ?_); rintro e w' ⟨rfl, ⟨nd, rfl⟩⟩; (try first | exact ⟨rfl, _, World.drewN_drewN _ _ _⟩ | exact ⟨rfl, _, Eq.trans (World.drewN_drewN _ _ _) (congrArg (World.drewN _) (Nat.add_assoc _ _ _))⟩)) | (go_at_call 76; (with_reducible refine (date_digits.calls k (a0.extract 20 22) t197 _ A17.out).mono ?_); rintro e w' ⟨rfl, ⟨nd, rfl⟩⟩; (try first | exact ⟨rfl, _, World.drewN_drewN _ _ _⟩ | exact ⟨rfl, _, Eq.trans (World.drewN_drewN _ _ _) (congrArg (World.drewN _) (Nat.add_assoc _ _ _))⟩)) | (go_at_call 76; (with_reducible refine (date_digits.calls k (a0.extract 23 25) t198 _ A20.out).mono ?_); rintro e w' ⟨rfl, ⟨nd, rfl⟩⟩; (try first | exact ⟨rfl, _, World.drewN_drewN _ _ _⟩ | exact ⟨rfl, _, Eq.trans (World.drewN_drewN _ _ _) (congrArg (World.drewN _) (Nat.add_assoc _ _ _))⟩))); go_upto_region 6 with (first | (go_at_call 75; (with_reducible refine (strings_Index.calls (⟨#[74, 97, 110, 70, 101, 98, 77, 97, 114, 65, 112, 114, 77, 97, 121, 74, 117, 110, 74, 117, 108, 65, 117, 103, 83, 101, 112, 79, 99, 116, 78, 111, 118, 68, 101, 99]⟩ : ByteArray) (a0.extract 8 11) t193 _ ?side1 A5.out).mono ?_); (case side1 => repeat (first | exact HRW.out | (with_reducible refine Kd.C_alloc ?_ _) | (with_reducible refine Kd.C_drewN ?_ _) | (with_reducible refine Kd.C_drew ?_))); rintro e w' ⟨rfl, ⟨nd, rfl⟩⟩; (try first | exact ⟨rfl, _, World.drewN_drewN _ _ _⟩ | exact ⟨rfl, _, Eq.trans (World.drewN_drewN _ _ _) (congrArg (World.drewN _) (Nat.add_assoc _ _ _))⟩)) | (go_at_call 76; (with_reducible refine (date_digits.calls k (a0.extract 12 16) t194 _ A8.out).mono ?_); rintro e w' ⟨rfl, ⟨nd, rfl⟩⟩; (try first | exact ⟨rfl, _, World.drewN_drewN _ _ _⟩ | exact ⟨rfl, _, Eq.trans (World.drewN_drewN _ _ _) (congrArg (World.drewN _) (Nat.add_assoc _ _ _))⟩)) | (go_at_call 76; (with_reducible refine (date_digits.calls k (a0.extract 5 7) t195 _ A11.out).mono ?_); rintro e w' ⟨rfl, ⟨nd, rfl⟩⟩; (try first | exact ⟨rfl, _, World.drewN_drewN _ _ _⟩ | exact ⟨rfl, _, Eq.trans (World.drewN_drewN _ _ _) (congrArg (World.drewN _) (Nat.add_assoc _ _ _))⟩)) | (go_at_call 76; (with_reducible refine (date_digits.calls k (a0.extract 17 19) t196 _ A14.out).mono ?_); rintro e w' ⟨rfl, ⟨nd, rfl⟩⟩; (try first | exact ⟨rfl, _, World.drewN_drewN _ _ _⟩ | exact ⟨rfl, _, Eq.trans (World.drewN_drewN _ _ _) (congrArg (World.drewN _) (Nat.add_assoc _ _ _))⟩)) | (go_at_call 76; (with_reducible refine (date_digits.calls k (a0.extract 20 22) t197 _ A17.out).mono ?_); rintro e w' ⟨rfl, ⟨nd, rfl⟩⟩; (try first | exact ⟨rfl, _, World.drewN_drewN _ _ _⟩ | exact ⟨rfl, _, Eq.trans (World.drewN_drewN _ _ _) (congrArg (World.drewN _) (Nat.add_assoc _ _ _))⟩)) | (go_at_call 76; (with_reducible refine (date_digits.calls k (a0.extract 23 25) t198 _ A20.out).mono ?_); rintro e w' ⟨rfl, ⟨nd, rfl⟩⟩; (try first | exact ⟨rfl, _, World.drewN_drewN _ _ _⟩ | exact ⟨rfl, _, Eq.trans (World.drewN_drewN _ _ _) (congrArg (World.drewN _) (Nat.add_assoc _ _ _))⟩))))
                            (try simp only [Act.put, List.setIfInBounds_toArray, List.set_cons_zero, List.set_cons_succ])
                            go_cut [79] (fun v79 wc => ∃ (kq : Nat) (x79_20 : Bool), v79 = .bool x79_20 ∧ Aside0 (date_Read.j0 kq a0 t193 t194 t195 t196 t197 t198 x79_20 = some (r1, r2)) ∧ Aside0 (kq ≤ k) ∧ Aside0 (Below w.heap.size w wc))
                            case first =>
                              have H := HC21.out
                              clear HC21
                              by_cases c22 : t193 < 0
                              · rw [if_pos c22] at H
                                have c22b0 : decide (t193 < 0) = true := decide_eq_true c22
                                clear c22
                                (first | rw [c22b0] | (simp only [i64_w, i32_w]; rw [c22b0]) | skip)
                                have H' := Aside0.mk H
                                clear H
                                go_wp2
                                repeat (go_quiet (fail); try go_wp2)
                                go_meet
                                case rel => exact ⟨_, (true), (by first | rfl | (simp; done) | (simp [*]; done)), H', ⟨by first | omega | exact Nat.le_refl _⟩, ⟨by repeat (first | (with_reducible first | exact HB.out | apply below_alloc | apply pw_below_drewN | apply below_drew1) | exact HB.out)⟩⟩
                              · rw [if_neg c22] at H
                                have c22b0 : decide (t193 < 0) = false := decide_eq_false c22
                                clear c22
                                (first | rw [c22b0] | (simp only [i64_w, i32_w]; rw [c22b0]) | skip)
                                by_cases c23 : (Int.tmod t193 3) = 0
                                · rw [if_pos c23] at H
                                  have c23b0 : ((Int.tmod t193 3) == 0) = true := beq_iff_eq.mpr c23
                                  have c23b1 : ((Int.tmod t193 3) != 0) = false := bne_eq_false_iff_eq.mpr c23
                                  clear c23
                                  by_cases c24 : t195 < 1
                                  · rw [if_pos c24] at H
                                    have c24b0 : decide (t195 < 1) = true := decide_eq_true c24
                                    clear c24
                                    have H' := Aside0.mk H
                                    clear H
                                    go_wp2
                                    repeat (go_quiet (fail); try go_wp2)
                                    go_meet
                                    case rel => exact ⟨_, (true), (by first | rfl | (simp; done) | (simp [*]; done)), H', ⟨by first | omega | exact Nat.le_refl _⟩, ⟨by repeat (first | (with_reducible first | exact HB.out | apply below_alloc | apply pw_below_drewN | apply below_drew1) | exact HB.out)⟩⟩
                                  · rw [if_neg c24] at H
                                    have c24b0 : decide (t195 < 1) = false := decide_eq_false c24
                                    clear c24
                                    replace H := Option.bind_eq_some_iff.mp H
                                    obtain ⟨t199, A250, H⟩ := H
                                    replace H : (if t195 > t199 then (date_Read.j0 k a0 t193 t194 t195 t196 t197 t198 true) else (if t196 < 0 then (date_Read.j0 k a0 t193 t194 t195 t196 t197 t198 true) else (if t196 > 23 then (date_Read.j0 k a0 t193 t194 t195 t196 t197 t198 true) else (if t197 < 0 then (date_Read.j0 k a0 t193 t194 t195 t196 t197 t198 true) else (if t197 > 59 then (date_Read.j0 k a0 t193 t194 t195 t196 t197 t198 true) else (if t198 < 0 then (date_Read.j0 k a0 t193 t194 t195 t196 t197 t198 true) else (date_Read.j0 k a0 t193 t194 t195 t196 t197 t198 (decide (t198 > 59))))))))) = some (r1, r2) := H
                                    have A25 := Aside0.mk A250
                                    clear A250
                                    by_cases c26 : t195 > t199
                                    · rw [if_pos c26] at H
                                      have c26b0 : decide (t199 < t195) = true := decide_eq_true c26
                                      clear c26
                                      have H' := Aside0.mk H
                                      clear H
                                      go_wp2_with (first | (go_at_call 77; (with_reducible refine (date_Days.calls k t194 (wrap64 ((wrap64 (Int.tdiv t193 3)) + 1)) t199 _ A25.out).mono ?_); rintro e w' ⟨rfl, ⟨nd, rfl⟩⟩; (try first | exact ⟨rfl, _, World.drewN_drewN _ _ _⟩ | exact ⟨rfl, _, Eq.trans (World.drewN_drewN _ _ _) (congrArg (World.drewN _) (Nat.add_assoc _ _ _))⟩)))
                                      repeat (go_quiet (first | (go_at_call 77; (with_reducible refine (date_Days.calls k t194 (wrap64 ((wrap64 (Int.tdiv t193 3)) + 1)) t199 _ A25.out).mono ?_); rintro e w' ⟨rfl, ⟨nd, rfl⟩⟩; (try first | exact ⟨rfl, _, World.drewN_drewN _ _ _⟩ | exact ⟨rfl, _, Eq.trans (World.drewN_drewN _ _ _) (congrArg (World.drewN _) (Nat.add_assoc _ _ _))⟩))); try go_wp2_with (first | (go_at_call 77; (with_reducible refine (date_Days.calls k t194 (wrap64 ((wrap64 (Int.tdiv t193 3)) + 1)) t199 _ A25.out).mono ?_); rintro e w' ⟨rfl, ⟨nd, rfl⟩⟩; (try first | exact ⟨rfl, _, World.drewN_drewN _ _ _⟩ | exact ⟨rfl, _, Eq.trans (World.drewN_drewN _ _ _) (congrArg (World.drewN _) (Nat.add_assoc _ _ _))⟩))))
                                      go_meet
                                      case rel => exact ⟨_, (true), (by first | rfl | (simp; done) | (simp [*]; done)), H', ⟨by first | omega | exact Nat.le_refl _⟩, ⟨by repeat (first | (with_reducible first | exact HB.out | apply below_alloc | apply pw_below_drewN | apply below_drew1) | exact HB.out)⟩⟩
                                    · rw [if_neg c26] at H
                                      have c26b0 : decide (t199 < t195) = false := decide_eq_false c26
                                      clear c26
                                      by_cases c27 : t196 < 0
                                      · rw [if_pos c27] at H
                                        have c27b0 : decide (t196 < 0) = true := decide_eq_true c27
                                        clear c27
                                        have H' := Aside0.mk H
                                        clear H
                                        go_wp2_with (first | (go_at_call 77; (with_reducible refine (date_Days.calls k t194 (wrap64 ((wrap64 (Int.tdiv t193 3)) + 1)) t199 _ A25.out).mono ?_); rintro e w' ⟨rfl, ⟨nd, rfl⟩⟩; (try first | exact ⟨rfl, _, World.drewN_drewN _ _ _⟩ | exact ⟨rfl, _, Eq.trans (World.drewN_drewN _ _ _) (congrArg (World.drewN _) (Nat.add_assoc _ _ _))⟩)))
                                        repeat (go_quiet (first | (go_at_call 77; (with_reducible refine (date_Days.calls k t194 (wrap64 ((wrap64 (Int.tdiv t193 3)) + 1)) t199 _ A25.out).mono ?_); rintro e w' ⟨rfl, ⟨nd, rfl⟩⟩; (try first | exact ⟨rfl, _, World.drewN_drewN _ _ _⟩ | exact ⟨rfl, _, Eq.trans (World.drewN_drewN _ _ _) (congrArg (World.drewN _) (Nat.add_assoc _ _ _))⟩))); try go_wp2_with (first | (go_at_call 77; (with_reducible refine (date_Days.calls k t194 (wrap64 ((wrap64 (Int.tdiv t193 3)) + 1)) t199 _ A25.out).mono ?_); rintro e w' ⟨rfl, ⟨nd, rfl⟩⟩; (try first | exact ⟨rfl, _, World.drewN_drewN _ _ _⟩ | exact ⟨rfl, _, Eq.trans (World.drewN_drewN _ _ _) (congrArg (World.drewN _) (Nat.add_assoc _ _ _))⟩))))
                                        go_meet
                                        case rel => exact ⟨_, (true), (by first | rfl | (simp; done) | (simp [*]; done)), H', ⟨by first | omega | exact Nat.le_refl _⟩, ⟨by repeat (first | (with_reducible first | exact HB.out | apply below_alloc | apply pw_below_drewN | apply below_drew1) | exact HB.out)⟩⟩
                                      · rw [if_neg c27] at H
                                        have c27b0 : decide (t196 < 0) = false := decide_eq_false c27
                                        clear c27
                                        by_cases c28 : t196 > 23
                                        · rw [if_pos c28] at H
                                          have c28b0 : decide (23 < t196) = true := decide_eq_true c28
                                          clear c28
                                          have H' := Aside0.mk H
                                          clear H
                                          go_wp2_with (first | (go_at_call 77; (with_reducible refine (date_Days.calls k t194 (wrap64 ((wrap64 (Int.tdiv t193 3)) + 1)) t199 _ A25.out).mono ?_); rintro e w' ⟨rfl, ⟨nd, rfl⟩⟩; (try first | exact ⟨rfl, _, World.drewN_drewN _ _ _⟩ | exact ⟨rfl, _, Eq.trans (World.drewN_drewN _ _ _) (congrArg (World.drewN _) (Nat.add_assoc _ _ _))⟩)))
                                          repeat (go_quiet (first | (go_at_call 77; (with_reducible refine (date_Days.calls k t194 (wrap64 ((wrap64 (Int.tdiv t193 3)) + 1)) t199 _ A25.out).mono ?_); rintro e w' ⟨rfl, ⟨nd, rfl⟩⟩; (try first | exact ⟨rfl, _, World.drewN_drewN _ _ _⟩ | exact ⟨rfl, _, Eq.trans (World.drewN_drewN _ _ _) (congrArg (World.drewN _) (Nat.add_assoc _ _ _))⟩))); try go_wp2_with (first | (go_at_call 77; (with_reducible refine (date_Days.calls k t194 (wrap64 ((wrap64 (Int.tdiv t193 3)) + 1)) t199 _ A25.out).mono ?_); rintro e w' ⟨rfl, ⟨nd, rfl⟩⟩; (try first | exact ⟨rfl, _, World.drewN_drewN _ _ _⟩ | exact ⟨rfl, _, Eq.trans (World.drewN_drewN _ _ _) (congrArg (World.drewN _) (Nat.add_assoc _ _ _))⟩))))
                                          go_meet
                                          case rel => exact ⟨_, (true), (by first | rfl | (simp; done) | (simp [*]; done)), H', ⟨by first | omega | exact Nat.le_refl _⟩, ⟨by repeat (first | (with_reducible first | exact HB.out | apply below_alloc | apply pw_below_drewN | apply below_drew1) | exact HB.out)⟩⟩
                                        · rw [if_neg c28] at H
                                          have c28b0 : decide (23 < t196) = false := decide_eq_false c28
                                          clear c28
                                          by_cases c29 : t197 < 0
                                          · rw [if_pos c29] at H
                                            have c29b0 : decide (t197 < 0) = true := decide_eq_true c29
                                            clear c29
                                            have H' := Aside0.mk H
                                            clear H
                                            go_wp2_with (first | (go_at_call 77; (with_reducible refine (date_Days.calls k t194 (wrap64 ((wrap64 (Int.tdiv t193 3)) + 1)) t199 _ A25.out).mono ?_); rintro e w' ⟨rfl, ⟨nd, rfl⟩⟩; (try first | exact ⟨rfl, _, World.drewN_drewN _ _ _⟩ | exact ⟨rfl, _, Eq.trans (World.drewN_drewN _ _ _) (congrArg (World.drewN _) (Nat.add_assoc _ _ _))⟩)))
                                            repeat (go_quiet (first | (go_at_call 77; (with_reducible refine (date_Days.calls k t194 (wrap64 ((wrap64 (Int.tdiv t193 3)) + 1)) t199 _ A25.out).mono ?_); rintro e w' ⟨rfl, ⟨nd, rfl⟩⟩; (try first | exact ⟨rfl, _, World.drewN_drewN _ _ _⟩ | exact ⟨rfl, _, Eq.trans (World.drewN_drewN _ _ _) (congrArg (World.drewN _) (Nat.add_assoc _ _ _))⟩))); try go_wp2_with (first | (go_at_call 77; (with_reducible refine (date_Days.calls k t194 (wrap64 ((wrap64 (Int.tdiv t193 3)) + 1)) t199 _ A25.out).mono ?_); rintro e w' ⟨rfl, ⟨nd, rfl⟩⟩; (try first | exact ⟨rfl, _, World.drewN_drewN _ _ _⟩ | exact ⟨rfl, _, Eq.trans (World.drewN_drewN _ _ _) (congrArg (World.drewN _) (Nat.add_assoc _ _ _))⟩))))
                                            go_meet
                                            case rel => exact ⟨_, (true), (by first | rfl | (simp; done) | (simp [*]; done)), H', ⟨by first | omega | exact Nat.le_refl _⟩, ⟨by repeat (first | (with_reducible first | exact HB.out | apply below_alloc | apply pw_below_drewN | apply below_drew1) | exact HB.out)⟩⟩
                                          · rw [if_neg c29] at H
                                            have c29b0 : decide (t197 < 0) = false := decide_eq_false c29
                                            clear c29
                                            by_cases c30 : t197 > 59
                                            · rw [if_pos c30] at H
                                              have c30b0 : decide (59 < t197) = true := decide_eq_true c30
                                              clear c30
                                              have H' := Aside0.mk H
                                              clear H
                                              go_wp2_with (first | (go_at_call 77; (with_reducible refine (date_Days.calls k t194 (wrap64 ((wrap64 (Int.tdiv t193 3)) + 1)) t199 _ A25.out).mono ?_); rintro e w' ⟨rfl, ⟨nd, rfl⟩⟩; (try first | exact ⟨rfl, _, World.drewN_drewN _ _ _⟩ | exact ⟨rfl, _, Eq.trans (World.drewN_drewN _ _ _) (congrArg (World.drewN _) (Nat.add_assoc _ _ _))⟩)))
                                              repeat (go_quiet (first | (go_at_call 77; (with_reducible refine (date_Days.calls k t194 (wrap64 ((wrap64 (Int.tdiv t193 3)) + 1)) t199 _ A25.out).mono ?_); rintro e w' ⟨rfl, ⟨nd, rfl⟩⟩; (try first | exact ⟨rfl, _, World.drewN_drewN _ _ _⟩ | exact ⟨rfl, _, Eq.trans (World.drewN_drewN _ _ _) (congrArg (World.drewN _) (Nat.add_assoc _ _ _))⟩))); try go_wp2_with (first | (go_at_call 77; (with_reducible refine (date_Days.calls k t194 (wrap64 ((wrap64 (Int.tdiv t193 3)) + 1)) t199 _ A25.out).mono ?_); rintro e w' ⟨rfl, ⟨nd, rfl⟩⟩; (try first | exact ⟨rfl, _, World.drewN_drewN _ _ _⟩ | exact ⟨rfl, _, Eq.trans (World.drewN_drewN _ _ _) (congrArg (World.drewN _) (Nat.add_assoc _ _ _))⟩))))
                                              go_meet
                                              case rel => exact ⟨_, (true), (by first | rfl | (simp; done) | (simp [*]; done)), H', ⟨by first | omega | exact Nat.le_refl _⟩, ⟨by repeat (first | (with_reducible first | exact HB.out | apply below_alloc | apply pw_below_drewN | apply below_drew1) | exact HB.out)⟩⟩
                                            · rw [if_neg c30] at H
                                              have c30b0 : decide (59 < t197) = false := decide_eq_false c30
                                              clear c30
                                              by_cases c31 : t198 < 0
                                              · rw [if_pos c31] at H
                                                have c31b0 : decide (t198 < 0) = true := decide_eq_true c31
                                                clear c31
                                                have H' := Aside0.mk H
                                                clear H
                                                go_wp2_with (first | (go_at_call 77; (with_reducible refine (date_Days.calls k t194 (wrap64 ((wrap64 (Int.tdiv t193 3)) + 1)) t199 _ A25.out).mono ?_); rintro e w' ⟨rfl, ⟨nd, rfl⟩⟩; (try first | exact ⟨rfl, _, World.drewN_drewN _ _ _⟩ | exact ⟨rfl, _, Eq.trans (World.drewN_drewN _ _ _) (congrArg (World.drewN _) (Nat.add_assoc _ _ _))⟩)))
                                                repeat (go_quiet (first | (go_at_call 77; (with_reducible refine (date_Days.calls k t194 (wrap64 ((wrap64 (Int.tdiv t193 3)) + 1)) t199 _ A25.out).mono ?_); rintro e w' ⟨rfl, ⟨nd, rfl⟩⟩; (try first | exact ⟨rfl, _, World.drewN_drewN _ _ _⟩ | exact ⟨rfl, _, Eq.trans (World.drewN_drewN _ _ _) (congrArg (World.drewN _) (Nat.add_assoc _ _ _))⟩))); try go_wp2_with (first | (go_at_call 77; (with_reducible refine (date_Days.calls k t194 (wrap64 ((wrap64 (Int.tdiv t193 3)) + 1)) t199 _ A25.out).mono ?_); rintro e w' ⟨rfl, ⟨nd, rfl⟩⟩; (try first | exact ⟨rfl, _, World.drewN_drewN _ _ _⟩ | exact ⟨rfl, _, Eq.trans (World.drewN_drewN _ _ _) (congrArg (World.drewN _) (Nat.add_assoc _ _ _))⟩))))
                                                go_meet
                                                case rel => exact ⟨_, (true), (by first | rfl | (simp; done) | (simp [*]; done)), H', ⟨by first | omega | exact Nat.le_refl _⟩, ⟨by repeat (first | (with_reducible first | exact HB.out | apply below_alloc | apply pw_below_drewN | apply below_drew1) | exact HB.out)⟩⟩
                                              · rw [if_neg c31] at H
                                                have c31b0 : decide (t198 < 0) = false := decide_eq_false c31
                                                clear c31
                                                have H' := Aside0.mk H
                                                clear H
                                                go_wp2_with (first | (go_at_call 77; (with_reducible refine (date_Days.calls k t194 (wrap64 ((wrap64 (Int.tdiv t193 3)) + 1)) t199 _ A25.out).mono ?_); rintro e w' ⟨rfl, ⟨nd, rfl⟩⟩; (try first | exact ⟨rfl, _, World.drewN_drewN _ _ _⟩ | exact ⟨rfl, _, Eq.trans (World.drewN_drewN _ _ _) (congrArg (World.drewN _) (Nat.add_assoc _ _ _))⟩)))
                                                repeat (go_quiet (first | (go_at_call 77; (with_reducible refine (date_Days.calls k t194 (wrap64 ((wrap64 (Int.tdiv t193 3)) + 1)) t199 _ A25.out).mono ?_); rintro e w' ⟨rfl, ⟨nd, rfl⟩⟩; (try first | exact ⟨rfl, _, World.drewN_drewN _ _ _⟩ | exact ⟨rfl, _, Eq.trans (World.drewN_drewN _ _ _) (congrArg (World.drewN _) (Nat.add_assoc _ _ _))⟩))); try go_wp2_with (first | (go_at_call 77; (with_reducible refine (date_Days.calls k t194 (wrap64 ((wrap64 (Int.tdiv t193 3)) + 1)) t199 _ A25.out).mono ?_); rintro e w' ⟨rfl, ⟨nd, rfl⟩⟩; (try first | exact ⟨rfl, _, World.drewN_drewN _ _ _⟩ | exact ⟨rfl, _, Eq.trans (World.drewN_drewN _ _ _) (congrArg (World.drewN _) (Nat.add_assoc _ _ _))⟩))))
                                                go_meet
                                                case rel => exact ⟨_, (decide (t198 > 59)), (by first | rfl | (simp; done) | (simp [*]; done)), H', ⟨by first | omega | exact Nat.le_refl _⟩, ⟨by repeat (first | (with_reducible first | exact HB.out | apply below_alloc | apply pw_below_drewN | apply below_drew1) | exact HB.out)⟩⟩
                                · rw [if_neg c23] at H
                                  have c23b0 : ((Int.tmod t193 3) == 0) = false := beq_eq_false_iff_ne.mpr c23
                                  have c23b1 : ((Int.tmod t193 3) != 0) = true := bne_iff_ne.mpr c23
                                  have H' := Aside0.mk H
                                  clear H
                                  go_wp2
                                  repeat (go_quiet (fail); try go_wp2)
                                  go_meet
                                  case rel => exact ⟨_, (true), (by first | rfl | (simp; done) | (simp [*]; done)), H', ⟨by first | omega | exact Nat.le_refl _⟩, ⟨by repeat (first | (with_reducible first | exact HB.out | apply below_alloc | apply pw_below_drewN | apply below_drew1) | exact HB.out)⟩⟩
                            case rest =>
                              clear HC21
                              try clear c1
                              try clear c2
                              try clear c2b0
                              try clear c2b1
                              try clear p2
                              try clear c3
                              try clear c3b0
                              try clear c3b1
                              try clear c4
                              try clear c4b0
                              try clear c4b1
                              try clear c6
                              try clear c6b0
                              try clear c6b1
                              try clear p6
                              try clear c7
                              try clear c7b0
                              try clear c7b1
                              try clear c9
                              try clear c9b0
                              try clear c9b1
                              try clear c10
                              try clear c10b0
                              try clear c10b1
                              try clear c12
                              try clear c12b0
                              try clear c12b1
                              try clear c13
                              try clear c13b0
                              try clear c13b1
                              try clear c15
                              try clear c15b0
                              try clear c15b1
                              try clear c16
                              try clear c16b0
                              try clear c16b1
                              try clear c18
                              try clear c18b0
                              try clear c18b1
                              try clear c19
                              try clear c19b0
                              try clear c19b1
                              try clear c22
                              try clear c22b0
                              try clear c23
                              try clear c23b0
                              try clear c23b1
                              try clear c24
                              try clear c24b0
                              try clear c26
                              try clear c26b0
                              try clear c27
                              try clear c27b0
                              try clear c28
                              try clear c28b0
                              try clear c29
                              try clear c29b0
                              try clear c30
                              try clear c30b0
                              try clear c31
                              try clear c31b0
                              obtain ⟨kq, x79_20, rfl, HA, HJ20, HB⟩ := hcut
                              cases kq with
                              | zero => exact absurd HA.out (by simp [date_Read.j0])
                              | succ kj20 =>
                                have H := HA.out
                                clear HA
                                simp only [date_Read.j0] at H
                                by_cases c32 : x79_20 = true
                                · subst c32
                                  have H1 : (some (0, 14)) = some (r1, r2) := by rw [if_pos rfl] at H; exact H
                                  clear H
                                  have H := H1
                                  clear H1
                                  simp only [Option.some.injEq, Prod.mk.injEq] at H
                                  obtain ⟨rfl, rfl⟩ := H
                                  go_wp2
                                  repeat (go_quiet (fail); try go_wp2)
                                  go_ret2
                                  exact ⟨by first | rfl | (generalize ByteArray.toList _ = l_; cases l_ <;> rfl) | (simp [errW_none, errW_some] <;> rfl) | (simp [*, errW_none, errW_some] <;> rfl), by repeat (first | (with_reducible first | exact HB.out | apply below_alloc | apply pw_below_drewN | apply below_drew1) | exact HB.out)⟩
                                · replace c32 := Bool.eq_false_iff.mpr c32
                                  subst c32
                                  have H1 : ((date_before.f t194).bind fun t200 => (date_Read.l0 kj20 a0 t193 t194 t196 t197 t198 (wrap64 ((wrap64 (t200 + t195)) - 1)) 1)) = some (r1, r2) := by rw [if_neg (show ¬ (false = true) by decide)] at H; exact H
                                  clear H
                                  have H := H1
                                  clear H1
                                  replace H := Option.bind_eq_some_iff.mp H
                                  obtain ⟨t200, A330, H⟩ := H
                                  replace H : (date_Read.l0 kj20 a0 t193 t194 t196 t197 t198 (wrap64 ((wrap64 (t200 + t195)) - 1)) 1) = some (r1, r2) := H
                                  have A33 := Aside0.mk A330
                                  clear A330
                                  have H' := Aside0.mk H
                                  clear H
                                  go_wp2_with (first | (go_at_call 78; (with_reducible refine (date_before.calls t194 t200 _ A33.out).mono ?_); rintro e w' ⟨rfl, ⟨nd, rfl⟩⟩; (try first | exact ⟨rfl, _, World.drewN_drewN _ _ _⟩ | exact ⟨rfl, _, Eq.trans (World.drewN_drewN _ _ _) (congrArg (World.drewN _) (Nat.add_assoc _ _ _))⟩)))
                                  repeat (go_quiet (first | (go_at_call 78; (with_reducible refine (date_before.calls t194 t200 _ A33.out).mono ?_); rintro e w' ⟨rfl, ⟨nd, rfl⟩⟩; (try first | exact ⟨rfl, _, World.drewN_drewN _ _ _⟩ | exact ⟨rfl, _, Eq.trans (World.drewN_drewN _ _ _) (congrArg (World.drewN _) (Nat.add_assoc _ _ _))⟩))); try go_wp2_with (first | (go_at_call 78; (with_reducible refine (date_before.calls t194 t200 _ A33.out).mono ?_); rintro e w' ⟨rfl, ⟨nd, rfl⟩⟩; (try first | exact ⟨rfl, _, World.drewN_drewN _ _ _⟩ | exact ⟨rfl, _, Eq.trans (World.drewN_drewN _ _ _) (congrArg (World.drewN _) (Nat.add_assoc _ _ _))⟩))))
                                  go_loopg [10, 11] kj20 (fun kq v10 v11 w' => ∃ (x10_2 : Int) (x11_2 : Int), v10 = .int .i64 x10_2 ∧ v11 = .int .i64 x11_2 ∧ Aside0 (date_Read.l0 kq a0 t193 t194 t196 t197 t198 x10_2 x11_2 = some (r1, r2)) ∧ Aside0 (kq ≤ kj20) ∧ Aside0 (Below w.heap.size w w'))
                                  case atStart => exact ⟨(wrap64 ((wrap64 (t200 + t195)) - 1)), (1), (by first | rfl | (simp; done) | (simp [*]; done)), (by first | rfl | (simp; done) | (simp [*]; done)), H', ⟨Nat.le_refl _⟩, ⟨by repeat (first | (with_reducible first | exact HB.out | apply below_alloc | apply pw_below_drewN | apply below_drew1) | exact HB.out)⟩⟩
                                  case round =>
                                    clear H'
                                    try clear c1
                                    try clear c2
                                    try clear c2b0
                                    try clear c2b1
                                    try clear p2
                                    try clear c3
                                    try clear c3b0
                                    try clear c3b1
                                    try clear c4
                                    try clear c4b0
                                    try clear c4b1
                                    try clear c6
                                    try clear c6b0
                                    try clear c6b1
                                    try clear p6
                                    try clear c7
                                    try clear c7b0
                                    try clear c7b1
                                    try clear c9
                                    try clear c9b0
                                    try clear c9b1
                                    try clear c10
                                    try clear c10b0
                                    try clear c10b1
                                    try clear c12
                                    try clear c12b0
                                    try clear c12b1
                                    try clear c13
                                    try clear c13b0
                                    try clear c13b1
                                    try clear c15
                                    try clear c15b0
                                    try clear c15b1
                                    try clear c16
                                    try clear c16b0
                                    try clear c16b1
                                    try clear c18
                                    try clear c18b0
                                    try clear c18b1
                                    try clear c19
                                    try clear c19b0
                                    try clear c19b1
                                    try clear c22
                                    try clear c22b0
                                    try clear c23
                                    try clear c23b0
                                    try clear c23b1
                                    try clear c24
                                    try clear c24b0
                                    try clear c26
                                    try clear c26b0
                                    try clear c27
                                    try clear c27b0
                                    try clear c28
                                    try clear c28b0
                                    try clear c29
                                    try clear c29b0
                                    try clear c30
                                    try clear c30b0
                                    try clear c31
                                    try clear c31b0
                                    try clear c32
                                    try clear p2
                                    try clear p6
                                    obtain ⟨x10_2, x11_2, rfl, rfl, HA, HK2, HB⟩ := hrel
                                    cases gk with
                                    | zero => exact absurd HA.out (by simp [date_Read.l0])
                                    | succ k2 =>
                                      have H := HA.out
                                      clear HA
                                      simp only [date_Read.l0] at H
                                      by_cases c34 : x11_2 ≤ (wrap64 (Int.tdiv t193 3))
                                      · rw [if_pos c34] at H
                                        have c34b0 : decide (x11_2 ≤ (wrap64 (Int.tdiv t193 3))) = true := decide_eq_true c34
                                        clear c34
                                        replace H := Option.bind_eq_some_iff.mp H
                                        obtain ⟨t201, A350, H⟩ := H
                                        replace H : (date_Read.l0 k2 a0 t193 t194 t196 t197 t198 (wrap64 (x10_2 + t201)) (wrap64 (x11_2 + 1))) = some (r1, r2) := H
                                        have A35 := Aside0.mk A350
                                        clear A350
                                        have H' := Aside0.mk H
                                        clear H
                                        go_wp2_with (first | (go_at_call 77; (with_reducible refine (date_Days.calls k2 t194 x11_2 t201 _ A35.out).mono ?_); rintro e w' ⟨rfl, ⟨nd, rfl⟩⟩; (try first | exact ⟨rfl, _, World.drewN_drewN _ _ _⟩ | exact ⟨rfl, _, Eq.trans (World.drewN_drewN _ _ _) (congrArg (World.drewN _) (Nat.add_assoc _ _ _))⟩)))
                                        repeat (go_quiet (first | (go_at_call 77; (with_reducible refine (date_Days.calls k2 t194 x11_2 t201 _ A35.out).mono ?_); rintro e w' ⟨rfl, ⟨nd, rfl⟩⟩; (try first | exact ⟨rfl, _, World.drewN_drewN _ _ _⟩ | exact ⟨rfl, _, Eq.trans (World.drewN_drewN _ _ _) (congrArg (World.drewN _) (Nat.add_assoc _ _ _))⟩))); try go_wp2_with (first | (go_at_call 77; (with_reducible refine (date_Days.calls k2 t194 x11_2 t201 _ A35.out).mono ?_); rintro e w' ⟨rfl, ⟨nd, rfl⟩⟩; (try first | exact ⟨rfl, _, World.drewN_drewN _ _ _⟩ | exact ⟨rfl, _, Eq.trans (World.drewN_drewN _ _ _) (congrArg (World.drewN _) (Nat.add_assoc _ _ _))⟩))))
                                        go_roundg k2
                                        case measure => have := HJ20.out; have := HK2.out; omega
                                        case rel => exact ⟨(wrap64 (x10_2 + t201)), (wrap64 (x11_2 + 1)), (by first | rfl | (simp; done) | (simp [*]; done)), (by first | rfl | (simp; done) | (simp [*]; done)), H', ⟨by have := HJ20.out; have := HK2.out; omega⟩, ⟨by repeat (first | (with_reducible first | exact HB.out | apply below_alloc | apply pw_below_drewN | apply below_drew1) | exact HB.out)⟩⟩
                                      · rw [if_neg c34] at H
                                        have c34b0 : decide (x11_2 ≤ (wrap64 (Int.tdiv t193 3))) = false := decide_eq_false c34
                                        clear c34
                                        replace H := Option.bind_eq_some_iff.mp H
                                        obtain ⟨⟨t202, t203⟩, A360, H⟩ := H
                                        replace H : (if t202.toList = a0.toList then (some (wrap64 ((wrap64 ((wrap64 ((wrap64 (x10_2 * 86400)) + (wrap64 (t196 * 3600)))) + (wrap64 (t197 * 60)))) + t198), 0)) else (some (0, 14))) = some (r1, r2) := H
                                        have A36 := Aside0.mk A360
                                        clear A360
                                        by_cases c37 : t202.toList = a0.toList
                                        · rw [if_pos c37] at H
                                          have c37b0 : (t202.toList == a0.toList) = true := beq_iff_eq.mpr c37
                                          have c37b1 : (t202.toList != a0.toList) = false := bne_eq_false_iff_eq.mpr c37
                                          clear c37
                                          simp only [Option.some.injEq, Prod.mk.injEq] at H
                                          obtain ⟨rfl, rfl⟩ := H
                                          go_wp2_with (first | (go_at_call 79; (with_reducible refine (date_Show.calls k2 (wrap64 ((wrap64 ((wrap64 ((wrap64 (x10_2 * 86400)) + (wrap64 (t196 * 3600)))) + (wrap64 (t197 * 60)))) + t198)) t202 t203 _ A36.out).mono ?_); rintro e w38 ⟨rfl, hb⟩; have n0_ := Aside0.mk (below_step (by repeat (first | (with_reducible first | exact HB.out | apply below_alloc | apply pw_below_drewN | apply below_drew1) | exact HB.out)) hb); clear HB; have HB := n0_; clear n0_; (try clear hb); (try clear hb2); (try clear hk); (try clear hi)))
                                          repeat (go_quiet (first | (go_at_call 79; (with_reducible refine (date_Show.calls k2 (wrap64 ((wrap64 ((wrap64 ((wrap64 (x10_2 * 86400)) + (wrap64 (t196 * 3600)))) + (wrap64 (t197 * 60)))) + t198)) t202 t203 _ A36.out).mono ?_); rintro e w38 ⟨rfl, hb⟩; have n0_ := Aside0.mk (below_step (by repeat (first | (with_reducible first | exact HB.out | apply below_alloc | apply pw_below_drewN | apply below_drew1) | exact HB.out)) hb); clear HB; have HB := n0_; clear n0_; (try clear hb); (try clear hb2); (try clear hk); (try clear hi))); try go_wp2_with (first | (go_at_call 79; (with_reducible refine (date_Show.calls k2 (wrap64 ((wrap64 ((wrap64 ((wrap64 (x10_2 * 86400)) + (wrap64 (t196 * 3600)))) + (wrap64 (t197 * 60)))) + t198)) t202 t203 _ A36.out).mono ?_); rintro e w38 ⟨rfl, hb⟩; have n0_ := Aside0.mk (below_step (by repeat (first | (with_reducible first | exact HB.out | apply below_alloc | apply pw_below_drewN | apply below_drew1) | exact HB.out)) hb); clear HB; have HB := n0_; clear n0_; (try clear hb); (try clear hb2); (try clear hk); (try clear hi))))
                                          go_ret2
                                          exact ⟨by first | rfl | (generalize ByteArray.toList _ = l_; cases l_ <;> rfl) | (simp [errW_none, errW_some] <;> rfl) | (simp [*, errW_none, errW_some] <;> rfl), by repeat (first | (with_reducible first | exact HB.out | apply below_alloc | apply pw_below_drewN | apply below_drew1) | exact HB.out)⟩
                                        · rw [if_neg c37] at H
                                          have c37b0 : (t202.toList == a0.toList) = false := beq_eq_false_iff_ne.mpr c37
                                          have c37b1 : (t202.toList != a0.toList) = true := bne_iff_ne.mpr c37
                                          simp only [Option.some.injEq, Prod.mk.injEq] at H
                                          obtain ⟨rfl, rfl⟩ := H
                                          go_wp2_with (first | (go_at_call 79; (with_reducible refine (date_Show.calls k2 (wrap64 ((wrap64 ((wrap64 ((wrap64 (x10_2 * 86400)) + (wrap64 (t196 * 3600)))) + (wrap64 (t197 * 60)))) + t198)) t202 t203 _ A36.out).mono ?_); rintro e w39 ⟨rfl, hb⟩; have n0_ := Aside0.mk (below_step (by repeat (first | (with_reducible first | exact HB.out | apply below_alloc | apply pw_below_drewN | apply below_drew1) | exact HB.out)) hb); clear HB; have HB := n0_; clear n0_; (try clear hb); (try clear hb2); (try clear hk); (try clear hi)))
                                          repeat (go_quiet (first | (go_at_call 79; (with_reducible refine (date_Show.calls k2 (wrap64 ((wrap64 ((wrap64 ((wrap64 (x10_2 * 86400)) + (wrap64 (t196 * 3600)))) + (wrap64 (t197 * 60)))) + t198)) t202 t203 _ A36.out).mono ?_); rintro e w39 ⟨rfl, hb⟩; have n0_ := Aside0.mk (below_step (by repeat (first | (with_reducible first | exact HB.out | apply below_alloc | apply pw_below_drewN | apply below_drew1) | exact HB.out)) hb); clear HB; have HB := n0_; clear n0_; (try clear hb); (try clear hb2); (try clear hk); (try clear hi))); try go_wp2_with (first | (go_at_call 79; (with_reducible refine (date_Show.calls k2 (wrap64 ((wrap64 ((wrap64 ((wrap64 (x10_2 * 86400)) + (wrap64 (t196 * 3600)))) + (wrap64 (t197 * 60)))) + t198)) t202 t203 _ A36.out).mono ?_); rintro e w39 ⟨rfl, hb⟩; have n0_ := Aside0.mk (below_step (by repeat (first | (with_reducible first | exact HB.out | apply below_alloc | apply pw_below_drewN | apply below_drew1) | exact HB.out)) hb); clear HB; have HB := n0_; clear n0_; (try clear hb); (try clear hb2); (try clear hk); (try clear hi))))
                                          go_ret2
                                          exact ⟨by first | rfl | (generalize ByteArray.toList _ = l_; cases l_ <;> rfl) | (simp [errW_none, errW_some] <;> rfl) | (simp [*, errW_none, errW_some] <;> rfl), by repeat (first | (with_reducible first | exact HB.out | apply below_alloc | apply pw_below_drewN | apply below_drew1) | exact HB.out)⟩
                          · rw [if_neg c19] at H
                            exact absurd H (by simp)
                        · rw [if_neg c18] at H
                          exact absurd H (by simp)
                      · rw [if_neg c16] at H
                        exact absurd H (by simp)
                    · rw [if_neg c15] at H
                      exact absurd H (by simp)
                  · rw [if_neg c13] at H
                    exact absurd H (by simp)
                · rw [if_neg c12] at H
                  exact absurd H (by simp)
              · rw [if_neg c10] at H
                exact absurd H (by simp)
            · rw [if_neg c9] at H
              exact absurd H (by simp)
          · rw [if_neg c7] at H
            exact absurd H (by simp)
        · rw [if_neg c6] at H
          exact absurd H (by simp)
      · rw [if_neg c4] at H
        exact absurd H (by simp)
    · rw [if_neg c3] at H
      exact absurd H (by simp)
  · rw [if_neg c2] at H
    have c2b0 : ((a0.size : Int) == 29) = false := beq_eq_false_iff_ne.mpr c2
    have c2b1 : ((a0.size : Int) != 29) = true := bne_iff_ne.mpr c2
    simp only [Option.some.injEq, Prod.mk.injEq] at H
    obtain ⟨rfl, rfl⟩ := H
    go_enter Tryd.func66, Tryd.ntmps66
    go_wp2
    repeat (go_quiet (fail); try go_wp2)
    go_ret2
    exact ⟨by first | rfl | (generalize ByteArray.toList _ = l_; cases l_ <;> rfl) | (simp [errW_none, errW_some] <;> rfl) | (simp [*, errW_none, errW_some] <;> rfl), by repeat (first | (with_reducible first | exact HB.out | apply below_alloc | apply pw_below_drewN | apply below_drew1) | exact HB.out)⟩

/-! ### pass_dated: function 50 -/
def pass_dated.f (k : Nat) (l0 : List (S49)) (a1 : ByteArray) : Option (Int × Bool) := (field_List_Get.f k l0 a1).bind fun bt204 => ((date_Read.f k bt204.1).bind fun bt206 => (some (bt206.1, (bt206.2 == 0))))
theorem pass_dated.mono : ∀ a0 a1 k, LeO (pass_dated.f k a0 a1) (pass_dated.f (k + 1) a0 a1) := by
  intro a0 a1 k
  unfold pass_dated.f
  repeat' first
      | (with_reducible exact date_Read.mono _ _)
      | (with_reducible exact field_List_Get.mono _ _ _)
      | (with_reducible exact LeO.refl _)
      | (with_reducible exact LeO.none _)
      | (with_reducible refine LeO.ite ?_ ?_)
      | (with_reducible refine LeO.bind ?_ (fun _ => ?_))
      | exact date_Read.mono _ _
      | exact field_List_Get.mono _ _ _
      | exact LeO.none _
      | refine LeO.ite ?_ ?_
      | refine LeO.bind ?_ (fun _ => ?_)
set_option maxHeartbeats 8000000 in
set_option maxRecDepth 100000 in
theorem pass_dated.calls (k : Nat) (A0 : Option Addr) (c0 : Nat) (l0 : List (S49)) (a1 : ByteArray) (r1 : Int) (r2 : Bool) (w : World) (hr0 : Kd.C k49 w A0 l0.length l0) (hc0 : l0.length ≤ c0) (hrW : WF w) (h : pass_dated.f k l0 a1 = some (r1, r2)) :
    Calls Tryd.prog 50 #[.slice A0 l0.length c0, .string a1] w fun e w' => e = .returned (.tuple #[.int .i64 r1, .bool r2]) ∧ Below w.heap.size w w' := by
  have HRW := Aside0.mk hrW
  clear hrW
  have HR0 := Aside0.mk hr0
  have HC0 := Aside0.mk hc0
  clear hr0 hc0
  have HB := Aside0.mk (Below.refl w.heap.size w)
  have H : ((field_List_Get.f k l0 a1).bind fun bt204 => ((date_Read.f k bt204.1).bind fun bt206 => (some (bt206.1, (bt206.2 == 0))))) = some (r1, r2) := h
  clear h
  replace H := Option.bind_eq_some_iff.mp H
  obtain ⟨⟨t204, t205⟩, A30, H⟩ := H
  replace H : ((date_Read.f k t204).bind fun bt206 => (some (bt206.1, (bt206.2 == 0)))) = some (r1, r2) := H
  have A3 := Aside0.mk A30
  clear A30
  replace H := Option.bind_eq_some_iff.mp H
  obtain ⟨⟨t206, t207⟩, A40, H⟩ := H
  replace H : (some (t206, (t207 == 0))) = some (r1, r2) := H
  have A4 := Aside0.mk A40
  clear A40
  simp only [Option.some.injEq, Prod.mk.injEq] at H
  obtain ⟨rfl, rfl⟩ := H
  go_enter Tryd.func50, Tryd.ntmps50
  go_wp2_with (first | ((with_reducible refine gate_callee (f := 14) rfl ?_); refine goesL_ (some 13) rfl rfl Tryd.func14 (by kernel_rfl) rfl #[.slice A0 l0.length c0, .string a1] rfl (by (try simp only [List.map_toArray, List.map_cons, List.map_nil]); first | done | rfl | (simp only [List.length_drop, List.length_take]; rfl)) ?_; (with_reducible refine (field_List_Get.calls k _ _ l0 a1 t204 t205 _ ?side1 ?side2 A3.out).mono ?_); (case side1 => repeat (first | exact HR0.out | (with_reducible refine Kd.C_alloc ?_ _) | (with_reducible refine Kd.C_drewN ?_ _) | (with_reducible refine Kd.C_drew ?_))); (case side2 => exact HC0.out); rintro e w5 ⟨rfl, hb⟩; refine ⟨_, rfl, ?_⟩; have n0_ := Aside0.mk (below_step (by repeat (first | (with_reducible first | exact HB.out | apply below_alloc | apply pw_below_drewN | apply below_drew1) | exact HB.out)) hb); clear HB; have HB := n0_; clear n0_; (try clear hb); (try clear hb2); (try clear hk); (try clear hi)) | ((with_reducible refine gate_callee (f := 66) rfl ?_); refine goesL_ (some 18) rfl rfl Tryd.func66 (by kernel_rfl) rfl #[.string t204] rfl (by (try simp only [List.map_toArray, List.map_cons, List.map_nil]); first | done | rfl | (simp only [List.length_drop, List.length_take]; rfl)) ?_; (with_reducible refine (date_Read.calls k t204 t206 t207 _ ?side1 A4.out).mono ?_); (case side1 => repeat (first | exact (WF.below HRW.out HB.out) | (with_reducible refine Kd.C_alloc ?_ _) | (with_reducible refine Kd.C_drewN ?_ _) | (with_reducible refine Kd.C_drew ?_))); rintro e w6 ⟨rfl, hb⟩; refine ⟨_, rfl, ?_⟩; have n0_ := Aside0.mk (below_step (by repeat (first | (with_reducible first | exact HB.out | apply below_alloc | apply pw_below_drewN | apply below_drew1) | exact HB.out)) hb); clear HB; have HB := n0_; clear n0_; (try clear hb); (try clear hb2); (try clear hk); (try clear hi)))
  go_ret2
  exact ⟨by first | rfl | (generalize ByteArray.toList _ = l_; cases l_ <;> rfl) | (simp [errW_none, errW_some] <;> rfl) | (simp [*, errW_none, errW_some] <;> rfl), by repeat (first | (with_reducible first | exact HB.out | apply below_alloc | apply pw_below_drewN | apply below_drew1) | exact HB.out)⟩

/-! ### stringslite_HasPrefix: function 84 -/
def stringslite_HasPrefix.f (a0 : ByteArray) (a1 : ByteArray) : Option (Bool) := if (a0.size : Int) ≥ (a1.size : Int) then (if 0 ≤ (a1.size : Int) then (if (a1.size : Int) ≤ (a0.size : Int) then (some ((a0.extract 0 ((a1.size : Int) : Int).toNat).toList == a1.toList)) else (none)) else (none)) else (some false)
set_option maxHeartbeats 8000000 in
set_option maxRecDepth 100000 in
theorem stringslite_HasPrefix.calls (a0 : ByteArray) (a1 : ByteArray) (r : Bool) (w : World) (h : stringslite_HasPrefix.f a0 a1 = some r) :
    Calls Tryd.prog 84 #[.string a0, .string a1] w fun e w' => e = .returned (.bool r) ∧ Drawn0 w w' := by
  have H : (if (a0.size : Int) ≥ (a1.size : Int) then (if 0 ≤ (a1.size : Int) then (if (a1.size : Int) ≤ (a0.size : Int) then (some ((a0.extract 0 ((a1.size : Int) : Int).toNat).toList == a1.toList)) else (none)) else (none)) else (some false)) = some r := h
  clear h
  by_cases c3 : (a0.size : Int) ≥ (a1.size : Int)
  · rw [if_pos c3] at H
    have c3b0 : decide ((a1.size : Int) ≤ (a0.size : Int)) = true := decide_eq_true c3
    have c3b1 : decide (a1.size ≤ a0.size) = true := decide_eq_true (Int.ofNat_le.mp c3)
    clear c3
    by_cases c4 : 0 ≤ (a1.size : Int)
    · rw [if_pos c4] at H
      have c4b0 := eq_true c4
      have c4b1 : decide (0 ≤ (a1.size : Int)) = true := decide_eq_true c4
      clear c4
      by_cases c5 : (a1.size : Int) ≤ (a0.size : Int)
      · rw [if_pos c5] at H
        have c5b0 := eq_true c5
        have c5b1 : decide ((a1.size : Int) ≤ (a0.size : Int)) = true := decide_eq_true c5
        clear c5
        obtain rfl := Option.some.inj H
        go_enter Tryd.func84, Tryd.ntmps84
        go_wp2
        go_ret
        exact ⟨by first | rfl | (simp; done) | (simp [*]; done) | (generalize ByteArray.toList _ = l_; cases l_ <;> rfl), by repeat (first | exact Drawn0.refl _ | apply Drawn0.step)⟩
      · rw [if_neg c5] at H
        exact absurd H (by simp)
    · rw [if_neg c4] at H
      exact absurd H (by simp)
  · rw [if_neg c3] at H
    have c3b0 : decide ((a1.size : Int) ≤ (a0.size : Int)) = false := decide_eq_false c3
    have c3b1 : decide (a1.size ≤ a0.size) = false := decide_eq_false (fun h => c3 (Int.ofNat_le.mpr h))
    clear c3
    obtain rfl := Option.some.inj H
    go_enter Tryd.func84, Tryd.ntmps84
    go_wp2
    go_ret
    exact ⟨by first | rfl | (simp; done) | (simp [*]; done) | (generalize ByteArray.toList _ = l_; cases l_ <;> rfl), by repeat (first | exact Drawn0.refl _ | apply Drawn0.step)⟩

/-! ### stringslite_TrimPrefix: function 69 -/
def stringslite_TrimPrefix.f (a0 : ByteArray) (a1 : ByteArray) : Option (ByteArray) := (stringslite_HasPrefix.f a0 a1).bind fun t208 => (if t208 = true then (if 0 ≤ (a1.size : Int) then (if (a1.size : Int) ≤ (a0.size : Int) then (some (a0.extract ((a1.size : Int) : Int).toNat a0.size)) else (none)) else (none)) else (some a0))
set_option maxHeartbeats 8000000 in
set_option maxRecDepth 100000 in
theorem stringslite_TrimPrefix.calls (a0 : ByteArray) (a1 : ByteArray) (r : ByteArray) (w : World) (h : stringslite_TrimPrefix.f a0 a1 = some r) :
    Calls Tryd.prog 69 #[.string a0, .string a1] w fun e w' => e = .returned (.string r) ∧ Drawn0 w w' := by
  have H : ((stringslite_HasPrefix.f a0 a1).bind fun t208 => (if t208 = true then (if 0 ≤ (a1.size : Int) then (if (a1.size : Int) ≤ (a0.size : Int) then (some (a0.extract ((a1.size : Int) : Int).toNat a0.size)) else (none)) else (none)) else (some a0))) = some r := h
  clear h
  replace H := Option.bind_eq_some_iff.mp H
  obtain ⟨t208, A30, H⟩ := H
  replace H : (if t208 = true then (if 0 ≤ (a1.size : Int) then (if (a1.size : Int) ≤ (a0.size : Int) then (some (a0.extract ((a1.size : Int) : Int).toNat a0.size)) else (none)) else (none)) else (some a0)) = some r := H
  have A3 := Aside0.mk A30
  clear A30
  by_cases c4 : t208 = true
  · subst c4
    have H1 : (if 0 ≤ (a1.size : Int) then (if (a1.size : Int) ≤ (a0.size : Int) then (some (a0.extract ((a1.size : Int) : Int).toNat a0.size)) else (none)) else (none)) = some r := by rw [if_pos rfl] at H; exact H
    clear H
    have H := H1
    clear H1
    by_cases c5 : 0 ≤ (a1.size : Int)
    · rw [if_pos c5] at H
      have c5b0 := eq_true c5
      have c5b1 : decide (0 ≤ (a1.size : Int)) = true := decide_eq_true c5
      clear c5
      by_cases c6 : (a1.size : Int) ≤ (a0.size : Int)
      · rw [if_pos c6] at H
        have c6b0 := eq_true c6
        have c6b1 : decide ((a1.size : Int) ≤ (a0.size : Int)) = true := decide_eq_true c6
        clear c6
        obtain rfl := Option.some.inj H
        go_enter Tryd.func69, Tryd.ntmps69
        go_wp2_with (first | ((with_reducible refine gate_callee (f := 84) rfl ?_); refine goesL_ (some 7) rfl rfl Tryd.func84 (by kernel_rfl) rfl #[.string a0, .string a1] rfl (by (try simp only [List.map_toArray, List.map_cons, List.map_nil]); first | done | rfl | (simp only [List.length_drop, List.length_take]; rfl)) ?_; (with_reducible refine (stringslite_HasPrefix.calls a0 a1 true _ A3.out).mono ?_); rintro e w' ⟨rfl, ⟨nd, rfl⟩⟩; refine ⟨_, rfl, ?_⟩))
        go_ret
        exact ⟨by first | rfl | (simp; done) | (simp [*]; done) | (generalize ByteArray.toList _ = l_; cases l_ <;> rfl), by repeat (first | exact Drawn0.refl _ | apply Drawn0.step)⟩
      · rw [if_neg c6] at H
        exact absurd H (by simp)
    · rw [if_neg c5] at H
      exact absurd H (by simp)
  · replace c4 := Bool.eq_false_iff.mpr c4
    subst c4
    have H1 : (some a0) = some r := by rw [if_neg (show ¬ (false = true) by decide)] at H; exact H
    clear H
    have H := H1
    clear H1
    obtain rfl := Option.some.inj H
    go_enter Tryd.func69, Tryd.ntmps69
    go_wp2_with (first | ((with_reducible refine gate_callee (f := 84) rfl ?_); refine goesL_ (some 7) rfl rfl Tryd.func84 (by kernel_rfl) rfl #[.string a0, .string a1] rfl (by (try simp only [List.map_toArray, List.map_cons, List.map_nil]); first | done | rfl | (simp only [List.length_drop, List.length_take]; rfl)) ?_; (with_reducible refine (stringslite_HasPrefix.calls a0 a1 false _ A3.out).mono ?_); rintro e w' ⟨rfl, ⟨nd, rfl⟩⟩; refine ⟨_, rfl, ?_⟩))
    go_ret
    exact ⟨by first | rfl | (simp; done) | (simp [*]; done) | (generalize ByteArray.toList _ = l_; cases l_ <;> rfl), by repeat (first | exact Drawn0.refl _ | apply Drawn0.step)⟩

/-! ### strings_TrimPrefix: function 54 -/
def strings_TrimPrefix.f (a0 : ByteArray) (a1 : ByteArray) : Option (ByteArray) := (stringslite_TrimPrefix.f a0 a1).bind fun t209 => (some t209)
set_option maxHeartbeats 8000000 in
set_option maxRecDepth 100000 in
theorem strings_TrimPrefix.calls (a0 : ByteArray) (a1 : ByteArray) (r : ByteArray) (w : World) (h : strings_TrimPrefix.f a0 a1 = some r) :
    Calls Tryd.prog 54 #[.string a0, .string a1] w fun e w' => e = .returned (.string r) ∧ Drawn0 w w' := by
  have H : ((stringslite_TrimPrefix.f a0 a1).bind fun t209 => (some t209)) = some r := h
  clear h
  replace H := Option.bind_eq_some_iff.mp H
  obtain ⟨t209, A30, H⟩ := H
  replace H : (some t209) = some r := H
  have A3 := Aside0.mk A30
  clear A30
  obtain rfl := Option.some.inj H
  go_enter Tryd.func54, Tryd.ntmps54
  go_wp2_with (first | ((with_reducible refine gate_callee (f := 69) rfl ?_); refine goesL_ (some 7) rfl rfl Tryd.func69 (by kernel_rfl) rfl #[.string a0, .string a1] rfl (by (try simp only [List.map_toArray, List.map_cons, List.map_nil]); first | done | rfl | (simp only [List.length_drop, List.length_take]; rfl)) ?_; (with_reducible refine (stringslite_TrimPrefix.calls a0 a1 t209 _ A3.out).mono ?_); rintro e w' ⟨rfl, ⟨nd, rfl⟩⟩; refine ⟨_, rfl, ?_⟩))
  go_ret
  exact ⟨by first | rfl | (simp; done) | (simp [*]; done) | (generalize ByteArray.toList _ = l_; cases l_ <;> rfl), by repeat (first | exact Drawn0.refl _ | apply Drawn0.step)⟩

-- NOT PRINTED: function 53 (pass_Good_1)

/-! ### pass_Good: function 28, by hand -/
-- over 13 14 52 49 50 54 44
def weakB : ByteArray := ⟨#[87, 47]⟩
def bareB (s : ByteArray) : ByteArray := ⟨(Lib.trimPrefix s.data.toList weakB.data.toList).toArray⟩
def goodB (t e : ByteArray) : Bool := (e.toList == ([42] : List UInt8)) || ((t.toList != ([] : List UInt8)) && ((bareB e).toList == (bareB t).toList))
set_option maxHeartbeats 4000000 in
theorem Good1_calls (e t : ByteArray) (B : Nat) (W : World) (hc : W.cell? ⟨B, 0, none⟩ = some (.string t)) :
    Calls Tryd.prog 53 #[.string e, .pointer (some ⟨B, 0, none⟩)] W fun e' w' => e' = .returned (.bool (goodB t e)) ∧ Below W.heap.size W w' := by
  have C1 : ∀ W, Calls Tryd.prog 54 #[.string e, .string ⟨#[87, 47]⟩] W fun e' w' => e' = .returned (.string (bareB e)) ∧ Drawn0 W w' := fun W => (Tryd.strings_TrimPrefix e ⟨#[87, 47]⟩ W).mono fun _ _ ⟨he, hw⟩ => ⟨he, by subst hw; exact Drawn0.refl _⟩
  have C2 : ∀ W, Calls Tryd.prog 54 #[.string t, .string ⟨#[87, 47]⟩] W fun e' w' => e' = .returned (.string (bareB t)) ∧ Drawn0 W w' := fun W => (Tryd.strings_TrimPrefix t ⟨#[87, 47]⟩ W).mono fun _ _ ⟨he, hw⟩ => ⟨he, by subst hw; exact Drawn0.refl _⟩
  unfold goodB
  generalize bareB e = x1 at *
  generalize bareB t = x2 at *
  have HC1 := Aside0.mk C1
  have HC2 := Aside0.mk C2
  clear C1 C2
  cases h1 : (e.toList == ([42] : List UInt8)) with
  | true =>
    go_enter Tryd.func53, Tryd.ntmps53
    go_wp2
    repeat (go_quiet (fail); try go_wp2)
    go_ret
    exact ⟨rfl, by repeat (first | exact Below.refl _ _ | apply pw_below_drewN | apply below_drew1)⟩
  | false =>
    cases h2 : (t.toList != ([] : List UInt8)) with
    | false =>
      have h3 : t.toList.isEmpty = true := by have h_ := h2; revert h_; generalize t.toList = l_; cases l_ <;> simp
      go_enter Tryd.func53, Tryd.ntmps53
      go_wp2
      repeat (go_quiet (fail); try go_wp2)
      go_ret
      exact ⟨rfl, by repeat (first | exact Below.refl _ _ | apply pw_below_drewN | apply below_drew1)⟩
    | true =>
      have h3 : t.toList.isEmpty = false := by have h_ := h2; revert h_; generalize t.toList = l_; cases l_ <;> simp
      go_enter Tryd.func53, Tryd.ntmps53
      go_wp2_with (first | (go_at_call 54; (with_reducible refine (HC1.out _).mono ?_); rintro e' w' ⟨rfl, ⟨nd, rfl⟩⟩; (try first | exact ⟨rfl, _, World.drewN_drewN _ _ _⟩ | exact ⟨rfl, _, Eq.trans (World.drewN_drewN _ _ _) (congrArg (World.drewN _) (Nat.add_assoc _ _ _))⟩)) | (go_at_call 54; (with_reducible refine (HC2.out _).mono ?_); rintro e' w' ⟨rfl, ⟨nd, rfl⟩⟩; (try first | exact ⟨rfl, _, World.drewN_drewN _ _ _⟩ | exact ⟨rfl, _, Eq.trans (World.drewN_drewN _ _ _) (congrArg (World.drewN _) (Nat.add_assoc _ _ _))⟩)))
      repeat (go_quiet (first | (go_at_call 54; (with_reducible refine (HC1.out _).mono ?_); rintro e' w' ⟨rfl, ⟨nd, rfl⟩⟩; (try first | exact ⟨rfl, _, World.drewN_drewN _ _ _⟩ | exact ⟨rfl, _, Eq.trans (World.drewN_drewN _ _ _) (congrArg (World.drewN _) (Nat.add_assoc _ _ _))⟩)) | (go_at_call 54; (with_reducible refine (HC2.out _).mono ?_); rintro e' w' ⟨rfl, ⟨nd, rfl⟩⟩; (try first | exact ⟨rfl, _, World.drewN_drewN _ _ _⟩ | exact ⟨rfl, _, Eq.trans (World.drewN_drewN _ _ _) (congrArg (World.drewN _) (Nat.add_assoc _ _ _))⟩))); try go_wp2_with (first | (go_at_call 54; (with_reducible refine (HC1.out _).mono ?_); rintro e' w' ⟨rfl, ⟨nd, rfl⟩⟩; (try first | exact ⟨rfl, _, World.drewN_drewN _ _ _⟩ | exact ⟨rfl, _, Eq.trans (World.drewN_drewN _ _ _) (congrArg (World.drewN _) (Nat.add_assoc _ _ _))⟩)) | (go_at_call 54; (with_reducible refine (HC2.out _).mono ?_); rintro e' w' ⟨rfl, ⟨nd, rfl⟩⟩; (try first | exact ⟨rfl, _, World.drewN_drewN _ _ _⟩ | exact ⟨rfl, _, Eq.trans (World.drewN_drewN _ _ _) (congrArg (World.drewN _) (Nat.add_assoc _ _ _))⟩))))
      go_ret
      exact ⟨rfl, by repeat (first | exact Below.refl _ _ | apply pw_below_drewN | apply below_drew1)⟩
def inmB : ByteArray := ⟨#[73, 102, 45, 78, 111, 110, 101, 45, 77, 97, 116, 99, 104]⟩
def imsB : ByteArray := ⟨#[73, 102, 45, 77, 111, 100, 105, 102, 105, 101, 100, 45, 83, 105, 110, 99, 101]⟩
def lamB : ByteArray := ⟨#[76, 97, 115, 116, 45, 77, 111, 100, 105, 102, 105, 101, 100]⟩
def goodF (k : Nat) (l0 l1 : List S49) : Option Bool := (pass_tag.f k l1).bind fun t => (field_List_Elements.f k l0 inmB).bind fun es => if es.length ≤ 1000000 then some (es.any (goodB t)) else none
def goodD (k : Nat) (l0 l1 : List S49) : Option Bool := (pass_dated.f k l0 imsB).bind fun a => (pass_dated.f k l1 lamB).bind fun b => some (a.2 && (b.2 && decide (b.1 ≤ a.1)))
def pass_Good.f (k : Nat) (l0 l1 : List S49) : Option Bool := (field_List_Get.f k l0 inmB).bind fun g => if g.2 = true then goodF k l0 l1 else goodD k l0 l1
theorem pass_Good.mono : ∀ l0 l1 k, LeO (pass_Good.f k l0 l1) (pass_Good.f (k + 1) l0 l1) := by
  intro l0 l1 k
  unfold pass_Good.f goodF goodD
  refine LeO.bind (field_List_Get.mono _ _ _) (fun g => ?_)
  split
  · exact LeO.bind (pass_tag.mono _ _) (fun _ => LeO.bind (field_List_Elements.mono _ _ _) (fun _ => LeO.refl _))
  · exact LeO.bind (pass_dated.mono _ _ _) (fun _ => LeO.bind (pass_dated.mono _ _ _) (fun _ => LeO.refl _))
set_option maxHeartbeats 2000000 in
set_option maxRecDepth 100000 in
theorem pass_Good.calls (k : Nat) (A0 : Option Addr) (c0 : Nat) (l0 : List S49) (A1 : Option Addr) (c1 : Nat) (l1 : List S49) (r : Bool) (w : World) (hr0 : Kd.C k49 w A0 l0.length l0) (hc0 : l0.length ≤ c0) (hr1 : Kd.C k49 w A1 l1.length l1) (hc1 : l1.length ≤ c1) (hrW : WF w) (h : pass_Good.f k l0 l1 = some r) :
    Calls Tryd.prog 28 #[.slice A0 l0.length c0, .slice A1 l1.length c1] w fun e w' => e = .returned (.bool r) ∧ Below w.heap.size w w' := by
  unfold pass_Good.f at h
  obtain ⟨⟨s, ok⟩, hg, h⟩ := Option.bind_eq_some_iff.mp h
  have G := field_List_Get.calls k A0 c0 l0 inmB s ok w hr0 hc0 hg
  unfold inmB at G
  cases ok with
  | true =>
    have h' : goodF k l0 l1 = some r := h
    clear h hg
    unfold goodF at h'
    obtain ⟨t, ht, h'⟩ := Option.bind_eq_some_iff.mp h'
    obtain ⟨es, he, h'⟩ := Option.bind_eq_some_iff.mp h'
    by_cases hok : es.length ≤ 1000000
    case neg => rw [if_neg hok] at h'; cases h'
    rw [if_pos hok] at h'
    obtain rfl := Option.some.inj h'
    clear h'
    have T : ∀ W, Below w.heap.size w W → Calls Tryd.prog 49 #[.slice A1 l1.length c1] W fun e w' => e = .returned (.string t) ∧ Below W.heap.size W w' := fun W hb => pass_tag.calls k A1 c1 l1 t W (Kd.C_below hr1 hb) hc1 ht
    have E : ∀ W, Below w.heap.size w W → Calls Tryd.prog 13 #[.slice A0 l0.length c0, .string ⟨#[73, 102, 45, 78, 111, 110, 101, 45, 77, 97, 116, 99, 104]⟩] W fun e w' => ∃ v0_ : Value, e = .returned (v0_) ∧ Kd.R Kd.string 9 w' W.heap.size (fun _ => True) v0_ es ∧ Below W.heap.size W w' := fun W hb => field_List_Elements.calls k A0 c0 l0 _ es W (Kd.C_below hr0 hb) hc0 he
    have eg : ∀ args w, (callFunc 53 args).run Tryd.prog w = .ok (.enter 53 args) w := enters_of Tryd.func53 (by kernel_rfl) rfl
    have C : ∀ (A : Option Addr) (c B : Nat) (W : World), W.cell? ⟨B, 0, none⟩ = some (.string t) → Kd.C Kd.string W A es.length es → es.length ≤ c → Calls Tryd.prog 52 #[.slice A es.length c, .func (.func 53) #[] #[.pointer (some ⟨B, 0, none⟩)]] W fun e w' => e = .returned (.bool (es.any (goodB t))) ∧ Below W.heap.size W w' :=
      fun A c B W hB hC hc => ContainsFunc_string (goodB t) 53 #[.pointer (some ⟨B, 0, none⟩)] eg A c es W (fun W' x hx hb' => Good1_calls x t B W' (pw_cell_below hb' hB)) hC hc (by omega)
    have HT := Aside0.mk T
    have HE := Aside0.mk E
    have HC := Aside0.mk C
    clear T E C hr0 hr1 ht he hrW
    generalize es.any (goodB t) = z at *
    go_enter Tryd.func28, Tryd.ntmps28
    go_wp2_with (first | (go_at_call 14; (with_reducible refine G.mono ?_); rintro e w1 ⟨rfl, hb1⟩; have HB1 := Aside0.mk hb1; clear hb1) | (go_at_call 49; (with_reducible refine (HT.out w1 HB1.out).mono ?_); rintro e w2 ⟨rfl, hb2⟩; have HB2 := Aside0.mk (below_then HB1.out HB1.out.size hb2); clear hb2) | (go_at_call 13; refine (HE.out _ ((HB2.out).alloc HB2.out.size _)).mono ?_; rintro e w3 ⟨v1, rfl, hv1, hb3⟩; obtain ⟨A, c, rfl, hlc, hC⟩ := Kd.R_reads hv1; have HB3 := Aside0.mk hb3; have HV := Aside0.mk hC; have HL := Aside0.mk hlc; have hcell : w3.cell? ⟨w2.heap.size, 0, none⟩ = some (.string t) := pw_cell_below hb3 (by simp); clear hv1 hb3 hC hlc) | (go_at_call 52; refine (HC.out A c _ w3 hcell HV.out HL.out).mono ?_; rintro e w4 ⟨rfl, hb4⟩))
    go_ret
    have hb := (HB2.out).alloc HB2.out.size (.cells #[.string t] 9)
    have hb3 := below_then hb hb.size HB3.out
    exact ⟨rfl, below_then hb3 hb3.size hb4⟩
  | false =>
    have h' : goodD k l0 l1 = some r := h
    clear h hg
    unfold goodD at h'
    obtain ⟨⟨a1, a2⟩, ha, h'⟩ := Option.bind_eq_some_iff.mp h'
    obtain ⟨⟨b1, b2⟩, hb, h'⟩ := Option.bind_eq_some_iff.mp h'
    have hr := Option.some.inj h'
    simp only at hr
    clear h'
    have D1 : ∀ W, Below w.heap.size w W → Calls Tryd.prog 50 #[.slice A0 l0.length c0, .string ⟨#[73, 102, 45, 77, 111, 100, 105, 102, 105, 101, 100, 45, 83, 105, 110, 99, 101]⟩] W fun e w' => e = .returned (.tuple #[.int .i64 a1, .bool a2]) ∧ Below W.heap.size W w' := fun W hb => pass_dated.calls k A0 c0 l0 _ a1 a2 W (Kd.C_below hr0 hb) hc0 (hrW.below hb) ha
    have D2 : ∀ W, Below w.heap.size w W → Calls Tryd.prog 50 #[.slice A1 l1.length c1, .string ⟨#[76, 97, 115, 116, 45, 77, 111, 100, 105, 102, 105, 101, 100]⟩] W fun e w' => e = .returned (.tuple #[.int .i64 b1, .bool b2]) ∧ Below W.heap.size W w' := fun W hb' => pass_dated.calls k A1 c1 l1 _ b1 b2 W (Kd.C_below hr1 hb') hc1 (hrW.below hb') hb
    have HD1 := Aside0.mk D1
    have HD2 := Aside0.mk D2
    have HR := Aside0.mk hr
    clear D1 D2 hr0 hr1 ha hb hrW hr
    have hr := HR.out
    clear HR
    cases a2 with
    | false =>
      obtain rfl : false = r := hr
      go_enter Tryd.func28, Tryd.ntmps28
      go_wp2_with (first | (go_at_call 14; (with_reducible refine G.mono ?_); rintro e w1 ⟨rfl, hb1⟩; have HB1 := Aside0.mk hb1; clear hb1) | (go_at_call 50; (with_reducible refine (HD1.out w1 HB1.out).mono ?_); rintro e w2 ⟨rfl, hb2⟩; have HB2 := Aside0.mk (below_then HB1.out HB1.out.size hb2); clear hb2 HD1) | (go_at_call 50; (with_reducible refine (HD2.out w2 HB2.out).mono ?_); rintro e w3 ⟨rfl, hb3⟩; have HB3 := Aside0.mk (below_then HB2.out HB2.out.size hb3); clear hb3))
      go_ret
      exact ⟨rfl, HB3.out⟩
    | true =>
      cases b2 with
      | false =>
        obtain rfl : false = r := hr
        go_enter Tryd.func28, Tryd.ntmps28
        go_wp2_with (first | (go_at_call 14; (with_reducible refine G.mono ?_); rintro e w1 ⟨rfl, hb1⟩; have HB1 := Aside0.mk hb1; clear hb1) | (go_at_call 50; (with_reducible refine (HD1.out w1 HB1.out).mono ?_); rintro e w2 ⟨rfl, hb2⟩; have HB2 := Aside0.mk (below_then HB1.out HB1.out.size hb2); clear hb2 HD1) | (go_at_call 50; (with_reducible refine (HD2.out w2 HB2.out).mono ?_); rintro e w3 ⟨rfl, hb3⟩; have HB3 := Aside0.mk (below_then HB2.out HB2.out.size hb3); clear hb3))
        go_ret
        exact ⟨rfl, HB3.out⟩
      | true =>
        obtain rfl : decide (b1 ≤ a1) = r := hr
        go_enter Tryd.func28, Tryd.ntmps28
        go_wp2_with (first | (go_at_call 14; (with_reducible refine G.mono ?_); rintro e w1 ⟨rfl, hb1⟩; have HB1 := Aside0.mk hb1; clear hb1) | (go_at_call 50; (with_reducible refine (HD1.out w1 HB1.out).mono ?_); rintro e w2 ⟨rfl, hb2⟩; have HB2 := Aside0.mk (below_then HB1.out HB1.out.size hb2); clear hb2 HD1) | (go_at_call 50; (with_reducible refine (HD2.out w2 HB2.out).mono ?_); rintro e w3 ⟨rfl, hb3⟩; have HB3 := Aside0.mk (below_then HB2.out HB2.out.size hb3); clear hb3))
        go_ret
        exact ⟨rfl, HB3.out⟩

/-! ### pantrylaw13_PassWeak_2: function 33 -/
def pantrylaw13_PassWeak_2.f (k : Nat) (a0 : ByteArray) (l1 : List (S49)) : Option (Bool) := (pass_Good.f k (([(⟨(⟨#[105, 102, 45, 110, 111, 110, 101, 45, 109, 97, 116, 99, 104]⟩ : ByteArray), a0⟩ : S49)] : List (S49))) l1).bind fun t213 => (some t213)
theorem pantrylaw13_PassWeak_2.mono : ∀ a0 a1 k, LeO (pantrylaw13_PassWeak_2.f k a0 a1) (pantrylaw13_PassWeak_2.f (k + 1) a0 a1) := by
  intro a0 a1 k
  unfold pantrylaw13_PassWeak_2.f
  repeat' first
      | (with_reducible exact pass_Good.mono _ _ _)
      | (with_reducible exact LeO.refl _)
      | (with_reducible exact LeO.none _)
      | (with_reducible refine LeO.ite ?_ ?_)
      | (with_reducible refine LeO.bind ?_ (fun _ => ?_))
      | exact pass_Good.mono _ _ _
      | exact LeO.none _
      | refine LeO.ite ?_ ?_
      | refine LeO.bind ?_ (fun _ => ?_)
set_option maxHeartbeats 8000000 in
set_option maxRecDepth 100000 in
theorem pantrylaw13_PassWeak_2.calls (k : Nat) (a0 : ByteArray) (A1 : Option Addr) (c1 : Nat) (l1 : List (S49)) (r : Bool) (w : World) (hr1 : Kd.C k49 w A1 l1.length l1) (hc1 : l1.length ≤ c1) (hrW : WF w) {g : Nat} (hb0_ : w.heap[g]? = some (.cells #[.slice A1 l1.length c1] 23 (0, 0))) (h : pantrylaw13_PassWeak_2.f k a0 l1 = some r) :
    Calls Tryd.prog 33 #[.string a0, .pointer (some ⟨g, 0, none⟩)] w fun e w' => e = .returned (.bool r) ∧ Below w.heap.size w w' := by
  have hu49 := Tryd.underlying49
  have HCW := Aside0.mk ((blk_cell hb0_ 0).trans rfl : w.cell? ⟨g, 0, none⟩ = some (.slice A1 l1.length c1))
  clear hb0_
  have HRW := Aside0.mk hrW
  clear hrW
  have HR1 := Aside0.mk hr1
  have HC1 := Aside0.mk hc1
  clear hr1 hc1
  have HB := Aside0.mk (Below.refl w.heap.size w)
  have H : ((pass_Good.f k (([(⟨(⟨#[105, 102, 45, 110, 111, 110, 101, 45, 109, 97, 116, 99, 104]⟩ : ByteArray), a0⟩ : S49)] : List (S49))) l1).bind fun t213 => (some t213)) = some r := h
  clear h
  obtain ⟨y210, hy210⟩ : ∃ y_ : List (S49), y_ = (([(⟨(⟨#[105, 102, 45, 110, 111, 110, 101, 45, 109, 97, 116, 99, 104]⟩ : ByteArray), a0⟩ : S49)] : List (S49))) := ⟨_, rfl⟩
  replace H : ((pass_Good.f k y210 l1).bind fun t213 => (some t213)) = some r := by first | (rw [hy210]; with_reducible exact H) | (have H2_ := (Option.bind_some _ _).symm.trans H; rw [hy210]; with_reducible exact H2_) | (have H2_ := (Option.bind_some _ _).symm.trans H; with_reducible exact H2_) | with_reducible exact H | (rw [hy210]; exact H) | exact H
  have Ny210 := Aside0.mk hy210
  clear hy210
  replace H := Option.bind_eq_some_iff.mp H
  obtain ⟨t213, A30, H⟩ := H
  replace H : (some t213) = some r := H
  have A3 := Aside0.mk A30
  clear A30
  obtain rfl := Option.some.inj H
  go_enter Tryd.func33, Tryd.ntmps33
  go_wp2_with (first | ((with_reducible refine gate_dst (N := 6) rfl ?_); refine Kd.R_lit k49 _ 49 ?hg (N := 6) ?hd (xs := ([(⟨(⟨#[105, 102, 45, 110, 111, 110, 101, 45, 109, 97, 116, 99, 104]⟩ : ByteArray), a0⟩ : S49)] : List (S49))) (inner := [.string (⟨#[105, 102, 45, 110, 111, 110, 101, 45, 109, 97, 116, 99, 104]⟩ : ByteArray), .string a0]) (ok := fun _ => True) (okp := fun _ => True) ?hr ?hp (fun _ hk => hk) trivial (Below.refl _ _) (Nat.le_refl _) (by simp) ?_; (case hd => rfl); (case hg => rfl); (case hr => first | (go_simp; done) | (go_simp; rfl)); (case hp => exact (Reps.c2 (show Kd.M k49 _ _ _ (⟨(⟨#[105, 102, 45, 110, 111, 110, 101, 45, 109, 97, 116, 99, 104]⟩ : ByteArray), a0⟩ : S49) [.string (⟨#[105, 102, 45, 110, 111, 110, 101, 45, 109, 97, 116, 99, 104]⟩ : ByteArray), .string a0] from (k49_mkM _ _ _ (⟨(⟨#[105, 102, 45, 110, 111, 110, 101, 45, 109, 97, 116, 99, 104]⟩ : ByteArray), a0⟩ : S49) )) (Reps.none _ _))); intro v211 w4 ho5 hb hg_ hnew_; clear hg_ hnew_; (first | rw [← Ny210.out] at ho5 | (simp only [Int.reduceToNat] at ho5; rw [← Ny210.out] at ho5)); have n0_ := Aside0.mk (Kd.R_lower ho5 (below_size (by repeat (first | (with_reducible first | exact HB.out | apply below_alloc | apply pw_below_drewN | apply below_drew1) | exact HB.out)))); have n1_ := Aside0.mk (below_step (by repeat (first | (with_reducible first | exact HB.out | apply below_alloc | apply pw_below_drewN | apply below_drew1) | exact HB.out)) hb); clear HB; have HO212 := n0_; have HB := n1_; clear n0_ n1_; clear hb ho5; obtain ⟨Ao6, co6, eo6⟩ := Kd.R_slice HO212.out; subst eo6; have hcell_ := pw_cell_below HB.out HCW.out) | ((with_reducible refine gate_callee (f := 28) rfl ?_); refine goesL_ (some 8) rfl rfl Tryd.func28 (by kernel_rfl) rfl #[.slice Ao6 y210.length co6, .slice A1 l1.length c1] rfl (by (try simp only [List.map_toArray, List.map_cons, List.map_nil]); first | done | rfl | (simp only [List.length_drop, List.length_take]; rfl)) ?_; (with_reducible refine (pass_Good.calls k _ _ y210 _ _ l1 t213 _ ?side1 ?side2 ?side3 ?side4 ?side5 A3.out).mono ?_); (case side1 => repeat (first | exact (Kd.R_reads' HO212.out).2.2 | (with_reducible refine Kd.C_alloc ?_ _) | (with_reducible refine Kd.C_drewN ?_ _) | (with_reducible refine Kd.C_drew ?_))); (case side2 => exact (Kd.R_reads' HO212.out).2.1); (case side3 => repeat (first | exact (Kd.C_below HR1.out HB.out) | (with_reducible refine Kd.C_alloc ?_ _) | (with_reducible refine Kd.C_drewN ?_ _) | (with_reducible refine Kd.C_drew ?_))); (case side4 => exact HC1.out); (case side5 => repeat (first | exact (WF.below HRW.out HB.out) | (with_reducible refine Kd.C_alloc ?_ _) | (with_reducible refine Kd.C_drewN ?_ _) | (with_reducible refine Kd.C_drew ?_))); rintro e w7 ⟨rfl, hb⟩; refine ⟨_, rfl, ?_⟩; have n0_ := Aside0.mk (Kd.R_below (by (with_reducible repeat (first | apply Kd.R_alloc | apply Kd.R_drewN | apply Kd.R_drew)); exact HO212.out) hb); have n1_ := Aside0.mk (below_step (by repeat (first | (with_reducible first | exact HB.out | apply below_alloc | apply pw_below_drewN | apply below_drew1) | exact HB.out)) hb); clear HO212; clear HB; have HO212 := n0_; have HB := n1_; clear n0_ n1_; (try clear hb); (try clear hb2); (try clear hk); (try clear hi)))
  go_ret
  exact ⟨by first | rfl | (generalize ByteArray.toList _ = l_; cases l_ <;> rfl) | (simp [errW_none, errW_some] <;> rfl) | (simp [*, errW_none, errW_some] <;> rfl), by repeat (first | (with_reducible first | exact HB.out | apply below_alloc | apply pw_below_drewN | apply below_drew1) | exact HB.out)⟩

end Go.Proofs.YtcechlbeghcliaaDoor.PAll
