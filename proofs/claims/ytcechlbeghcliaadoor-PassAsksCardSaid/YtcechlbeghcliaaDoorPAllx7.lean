-- Text by a program of this session, over what print.py prints.
import Derived.Test.YtcechlbeghcliaaDoorPAllx0
import Derived.Test.YtcechlbeghcliaaDoorPAllx3
import Derived.Test.YtcechlbeghcliaaDoorPAllx4
import Derived.Test.YtcechlbeghcliaaDoorPAllx5
import Derived.Test.YtcechlbeghcliaaDoorPAllx6
namespace Go.Proofs.YtcechlbeghcliaaDoor.PAll
open Go.RowKit Go.Proofs.YtcechlbeghcliaaDoorW.PrintWords Go.Proofs.YtcechlbeghcliaaDoorW.PrintLast Go.Proofs.YtcechlbeghcliaaDoorW.PrintMore
attribute [local go_sem] max2_int min2_int max_two min_two max_three min_three max_four min_four   -- for this text's walks alone
set_option linter.unusedVariables false
set_option linter.unusedSimpArgs false

/-! ### date_Read: function 66 -/
mutual
def date_Read.j0 : Nat → ByteArray → Int → Int → Int → Int → Int → Int → Bool → Option (Int × Int)
  | 0, _, _, _, _, _, _, _, _ => none
  | k + 1, x0, x4, x5, x6, x7, x8, x9, x79 => if x79 = true then (some (0, 14)) else ((date_before.f x5).bind fun t210 => (date_Read.l0 k x0 x4 x5 x7 x8 x9 (wrap64 ((wrap64 (t210 + x6)) - 1)) 1))
def date_Read.l0 : Nat → ByteArray → Int → Int → Int → Int → Int → Int → Int → Option (Int × Int)
  | 0, _, _, _, _, _, _, _, _ => none
  | k + 1, x0, x4, x5, x7, x8, x9, x10, x11 => if x11 ≤ (wrap64 (Int.tdiv x4 3)) then ((date_Days.f k x5 x11).bind fun t211 => (date_Read.l0 k x0 x4 x5 x7 x8 x9 (wrap64 (x10 + t211)) (wrap64 (x11 + 1)))) else ((date_Show.f k (wrap64 ((wrap64 ((wrap64 ((wrap64 (x10 * 86400)) + (wrap64 (x7 * 3600)))) + (wrap64 (x8 * 60)))) + x9))).bind fun bt212 => (if bt212.1.toList = x0.toList then (some (wrap64 ((wrap64 ((wrap64 ((wrap64 (x10 * 86400)) + (wrap64 (x7 * 3600)))) + (wrap64 (x8 * 60)))) + x9), 0)) else (some (0, 14))))
end
def date_Read.f (k : Nat) (a0 : ByteArray) : Option (Int × Int) := if (a0.size : Int) = 29 then (if 8 ≤ 11 then (if 11 ≤ (a0.size : Int) then ((strings_Index.f (⟨#[74, 97, 110, 70, 101, 98, 77, 97, 114, 65, 112, 114, 77, 97, 121, 74, 117, 110, 74, 117, 108, 65, 117, 103, 83, 101, 112, 79, 99, 116, 78, 111, 118, 68, 101, 99]⟩ : ByteArray) (a0.extract 8 11)).bind fun t203 => (if 12 ≤ 16 then (if 16 ≤ (a0.size : Int) then ((date_digits.f k (a0.extract 12 16)).bind fun t204 => (if 5 ≤ 7 then (if 7 ≤ (a0.size : Int) then ((date_digits.f k (a0.extract 5 7)).bind fun t205 => (if 17 ≤ 19 then (if 19 ≤ (a0.size : Int) then ((date_digits.f k (a0.extract 17 19)).bind fun t206 => (if 20 ≤ 22 then (if 22 ≤ (a0.size : Int) then ((date_digits.f k (a0.extract 20 22)).bind fun t207 => (if 23 ≤ 25 then (if 25 ≤ (a0.size : Int) then ((date_digits.f k (a0.extract 23 25)).bind fun t208 => (if t203 < 0 then (date_Read.j0 k a0 t203 t204 t205 t206 t207 t208 true) else (if (Int.tmod t203 3) = 0 then (if t205 < 1 then (date_Read.j0 k a0 t203 t204 t205 t206 t207 t208 true) else ((date_Days.f k t204 (wrap64 ((wrap64 (Int.tdiv t203 3)) + 1))).bind fun t209 => (if t205 > t209 then (date_Read.j0 k a0 t203 t204 t205 t206 t207 t208 true) else (if t206 < 0 then (date_Read.j0 k a0 t203 t204 t205 t206 t207 t208 true) else (if t206 > 23 then (date_Read.j0 k a0 t203 t204 t205 t206 t207 t208 true) else (if t207 < 0 then (date_Read.j0 k a0 t203 t204 t205 t206 t207 t208 true) else (if t207 > 59 then (date_Read.j0 k a0 t203 t204 t205 t206 t207 t208 true) else (if t208 < 0 then (date_Read.j0 k a0 t203 t204 t205 t206 t207 t208 true) else (date_Read.j0 k a0 t203 t204 t205 t206 t207 t208 (decide (t208 > 59))))))))))) else (date_Read.j0 k a0 t203 t204 t205 t206 t207 t208 true)))) else (none)) else (none))) else (none)) else (none))) else (none)) else (none))) else (none)) else (none))) else (none)) else (none))) else (none)) else (none)) else (some (0, 14))
theorem date_Read.mono_l : ∀ k, (∀ y0 y1 y2 y3 y4 y5 y6 y7, LeO (date_Read.j0 k y0 y1 y2 y3 y4 y5 y6 y7) (date_Read.j0 (k + 1) y0 y1 y2 y3 y4 y5 y6 y7)) ∧ (∀ y0 y1 y2 y3 y4 y5 y6 y7, LeO (date_Read.l0 k y0 y1 y2 y3 y4 y5 y6 y7) (date_Read.l0 (k + 1) y0 y1 y2 y3 y4 y5 y6 y7))
  | 0 => ⟨fun _ _ _ _ _ _ _ _ r h => by simp [date_Read.j0] at h, fun _ _ _ _ _ _ _ _ r h => by simp [date_Read.l0] at h⟩
  | k + 1 => by
    obtain ⟨ih0, ih1⟩ := date_Read.mono_l k
    refine ⟨?_, ?_⟩
    · intro y0 y1 y2 y3 y4 y5 y6 y7
      unfold date_Read.j0
      repeat' first
      | (with_reducible exact ih0 _ _ _ _ _ _ _ _)
      | (with_reducible exact ih1 _ _ _ _ _ _ _ _)
      | (with_reducible exact date_Days.mono _ _ _)
      | (with_reducible exact date_Show.mono _ _)
      | (with_reducible exact date_digits.mono _ _)
      | (with_reducible exact LeO.refl _)
      | (with_reducible exact LeO.none _)
      | (with_reducible refine LeO.ite ?_ ?_)
      | (with_reducible refine LeO.bind ?_ (fun _ => ?_))
      | exact ih0 _ _ _ _ _ _ _ _
      | exact ih1 _ _ _ _ _ _ _ _
      | exact date_Days.mono _ _ _
      | exact date_Show.mono _ _
      | exact date_digits.mono _ _
      | exact LeO.none _
      | refine LeO.ite ?_ ?_
      | refine LeO.bind ?_ (fun _ => ?_)
    · intro y0 y1 y2 y3 y4 y5 y6 y7
      unfold date_Read.l0
      repeat' first
      | (with_reducible exact ih0 _ _ _ _ _ _ _ _)
      | (with_reducible exact ih1 _ _ _ _ _ _ _ _)
      | (with_reducible exact date_Days.mono _ _ _)
      | (with_reducible exact date_Show.mono _ _)
      | (with_reducible exact date_digits.mono _ _)
      | (with_reducible exact LeO.refl _)
      | (with_reducible exact LeO.none _)
      | (with_reducible refine LeO.ite ?_ ?_)
      | (with_reducible refine LeO.bind ?_ (fun _ => ?_))
      | exact ih0 _ _ _ _ _ _ _ _
      | exact ih1 _ _ _ _ _ _ _ _
      | exact date_Days.mono _ _ _
      | exact date_Show.mono _ _
      | exact date_digits.mono _ _
      | exact LeO.none _
      | refine LeO.ite ?_ ?_
      | refine LeO.bind ?_ (fun _ => ?_)
theorem date_Read.mono : ∀ a0 k, LeO (date_Read.f k a0) (date_Read.f (k + 1) a0) := by
  intro a0 k
  obtain ⟨ih0, ih1⟩ := date_Read.mono_l k
  unfold date_Read.f
  repeat' first
      | (with_reducible exact ih0 _ _ _ _ _ _ _ _)
      | (with_reducible exact ih1 _ _ _ _ _ _ _ _)
      | (with_reducible exact date_Days.mono _ _ _)
      | (with_reducible exact date_Show.mono _ _)
      | (with_reducible exact date_digits.mono _ _)
      | (with_reducible exact LeO.refl _)
      | (with_reducible exact LeO.none _)
      | (with_reducible refine LeO.ite ?_ ?_)
      | (with_reducible refine LeO.bind ?_ (fun _ => ?_))
      | exact ih0 _ _ _ _ _ _ _ _
      | exact ih1 _ _ _ _ _ _ _ _
      | exact date_Days.mono _ _ _
      | exact date_Show.mono _ _
      | exact date_digits.mono _ _
      | exact LeO.none _
      | refine LeO.ite ?_ ?_
      | refine LeO.bind ?_ (fun _ => ?_)
set_option maxHeartbeats 8000000 in
set_option maxRecDepth 100000 in
theorem date_Read.calls (k : Nat) (a0 : ByteArray) (r1 : Int) (r2 : Int) (w : World) (hrW : WF w) (h : date_Read.f k a0 = some (r1, r2)) :
    Calls Tryd.prog 66 #[.string a0] w fun e w' => e = .returned (.tuple #[.int .i64 r1, .int .i64 r2]) ∧ Below w.heap.size w w' := by
  have HRW := Aside0.mk hrW
  clear hrW
  have HB := Aside0.mk (Below.refl w.heap.size w)
  have H : (if (a0.size : Int) = 29 then (if 8 ≤ 11 then (if 11 ≤ (a0.size : Int) then ((strings_Index.f (⟨#[74, 97, 110, 70, 101, 98, 77, 97, 114, 65, 112, 114, 77, 97, 121, 74, 117, 110, 74, 117, 108, 65, 117, 103, 83, 101, 112, 79, 99, 116, 78, 111, 118, 68, 101, 99]⟩ : ByteArray) (a0.extract 8 11)).bind fun t203 => (if 12 ≤ 16 then (if 16 ≤ (a0.size : Int) then ((date_digits.f k (a0.extract 12 16)).bind fun t204 => (if 5 ≤ 7 then (if 7 ≤ (a0.size : Int) then ((date_digits.f k (a0.extract 5 7)).bind fun t205 => (if 17 ≤ 19 then (if 19 ≤ (a0.size : Int) then ((date_digits.f k (a0.extract 17 19)).bind fun t206 => (if 20 ≤ 22 then (if 22 ≤ (a0.size : Int) then ((date_digits.f k (a0.extract 20 22)).bind fun t207 => (if 23 ≤ 25 then (if 25 ≤ (a0.size : Int) then ((date_digits.f k (a0.extract 23 25)).bind fun t208 => (if t203 < 0 then (date_Read.j0 k a0 t203 t204 t205 t206 t207 t208 true) else (if (Int.tmod t203 3) = 0 then (if t205 < 1 then (date_Read.j0 k a0 t203 t204 t205 t206 t207 t208 true) else ((date_Days.f k t204 (wrap64 ((wrap64 (Int.tdiv t203 3)) + 1))).bind fun t209 => (if t205 > t209 then (date_Read.j0 k a0 t203 t204 t205 t206 t207 t208 true) else (if t206 < 0 then (date_Read.j0 k a0 t203 t204 t205 t206 t207 t208 true) else (if t206 > 23 then (date_Read.j0 k a0 t203 t204 t205 t206 t207 t208 true) else (if t207 < 0 then (date_Read.j0 k a0 t203 t204 t205 t206 t207 t208 true) else (if t207 > 59 then (date_Read.j0 k a0 t203 t204 t205 t206 t207 t208 true) else (if t208 < 0 then (date_Read.j0 k a0 t203 t204 t205 t206 t207 t208 true) else (date_Read.j0 k a0 t203 t204 t205 t206 t207 t208 (decide (t208 > 59))))))))))) else (date_Read.j0 k a0 t203 t204 t205 t206 t207 t208 true)))) else (none)) else (none))) else (none)) else (none))) else (none)) else (none))) else (none)) else (none))) else (none)) else (none))) else (none)) else (none)) else (some (0, 14))) = some (r1, r2) := h
  clear h
  by_cases c2 : (a0.size : Int) = 29
  · rw [if_pos c2] at H
    have c2b0 : ((a0.size : Int) == 29) = true := beq_iff_eq.mpr c2
    have c2b1 : ((a0.size : Int) != 29) = false := bne_eq_false_iff_eq.mpr c2
    clear c2
    by_cases c3 : 8 ≤ 11
    · rw [if_pos c3] at H
      have c3b0 := eq_true c3
      have c3b1 : decide (8 ≤ 11) = true := decide_eq_true c3
      clear c3
      by_cases c4 : 11 ≤ (a0.size : Int)
      · rw [if_pos c4] at H
        have c4b0 := eq_true c4
        have c4b1 : decide (11 ≤ (a0.size : Int)) = true := decide_eq_true c4
        clear c4
        replace H := Option.bind_eq_some_iff.mp H
        obtain ⟨t203, A50, H⟩ := H
        replace H : (if 12 ≤ 16 then (if 16 ≤ (a0.size : Int) then ((date_digits.f k (a0.extract 12 16)).bind fun t204 => (if 5 ≤ 7 then (if 7 ≤ (a0.size : Int) then ((date_digits.f k (a0.extract 5 7)).bind fun t205 => (if 17 ≤ 19 then (if 19 ≤ (a0.size : Int) then ((date_digits.f k (a0.extract 17 19)).bind fun t206 => (if 20 ≤ 22 then (if 22 ≤ (a0.size : Int) then ((date_digits.f k (a0.extract 20 22)).bind fun t207 => (if 23 ≤ 25 then (if 25 ≤ (a0.size : Int) then ((date_digits.f k (a0.extract 23 25)).bind fun t208 => (if t203 < 0 then (date_Read.j0 k a0 t203 t204 t205 t206 t207 t208 true) else (if (Int.tmod t203 3) = 0 then (if t205 < 1 then (date_Read.j0 k a0 t203 t204 t205 t206 t207 t208 true) else ((date_Days.f k t204 (wrap64 ((wrap64 (Int.tdiv t203 3)) + 1))).bind fun t209 => (if t205 > t209 then (date_Read.j0 k a0 t203 t204 t205 t206 t207 t208 true) else (if t206 < 0 then (date_Read.j0 k a0 t203 t204 t205 t206 t207 t208 true) else (if t206 > 23 then (date_Read.j0 k a0 t203 t204 t205 t206 t207 t208 true) else (if t207 < 0 then (date_Read.j0 k a0 t203 t204 t205 t206 t207 t208 true) else (if t207 > 59 then (date_Read.j0 k a0 t203 t204 t205 t206 t207 t208 true) else (if t208 < 0 then (date_Read.j0 k a0 t203 t204 t205 t206 t207 t208 true) else (date_Read.j0 k a0 t203 t204 t205 t206 t207 t208 (decide (t208 > 59))))))))))) else (date_Read.j0 k a0 t203 t204 t205 t206 t207 t208 true)))) else (none)) else (none))) else (none)) else (none))) else (none)) else (none))) else (none)) else (none))) else (none)) else (none)) = some (r1, r2) := H
        have A5 := Aside0.mk A50
        clear A50
        by_cases c6 : 12 ≤ 16
        · rw [if_pos c6] at H
          have c6b0 := eq_true c6
          have c6b1 : decide (12 ≤ 16) = true := decide_eq_true c6
          clear c6
          by_cases c7 : 16 ≤ (a0.size : Int)
          · rw [if_pos c7] at H
            have c7b0 := eq_true c7
            have c7b1 : decide (16 ≤ (a0.size : Int)) = true := decide_eq_true c7
            clear c7
            replace H := Option.bind_eq_some_iff.mp H
            obtain ⟨t204, A80, H⟩ := H
            replace H : (if 5 ≤ 7 then (if 7 ≤ (a0.size : Int) then ((date_digits.f k (a0.extract 5 7)).bind fun t205 => (if 17 ≤ 19 then (if 19 ≤ (a0.size : Int) then ((date_digits.f k (a0.extract 17 19)).bind fun t206 => (if 20 ≤ 22 then (if 22 ≤ (a0.size : Int) then ((date_digits.f k (a0.extract 20 22)).bind fun t207 => (if 23 ≤ 25 then (if 25 ≤ (a0.size : Int) then ((date_digits.f k (a0.extract 23 25)).bind fun t208 => (if t203 < 0 then (date_Read.j0 k a0 t203 t204 t205 t206 t207 t208 true) else (if (Int.tmod t203 3) = 0 then (if t205 < 1 then (date_Read.j0 k a0 t203 t204 t205 t206 t207 t208 true) else ((date_Days.f k t204 (wrap64 ((wrap64 (Int.tdiv t203 3)) + 1))).bind fun t209 => (if t205 > t209 then (date_Read.j0 k a0 t203 t204 t205 t206 t207 t208 true) else (if t206 < 0 then (date_Read.j0 k a0 t203 t204 t205 t206 t207 t208 true) else (if t206 > 23 then (date_Read.j0 k a0 t203 t204 t205 t206 t207 t208 true) else (if t207 < 0 then (date_Read.j0 k a0 t203 t204 t205 t206 t207 t208 true) else (if t207 > 59 then (date_Read.j0 k a0 t203 t204 t205 t206 t207 t208 true) else (if t208 < 0 then (date_Read.j0 k a0 t203 t204 t205 t206 t207 t208 true) else (date_Read.j0 k a0 t203 t204 t205 t206 t207 t208 (decide (t208 > 59))))))))))) else (date_Read.j0 k a0 t203 t204 t205 t206 t207 t208 true)))) else (none)) else (none))) else (none)) else (none))) else (none)) else (none))) else (none)) else (none)) = some (r1, r2) := H
            have A8 := Aside0.mk A80
            clear A80
            by_cases c9 : 5 ≤ 7
            · rw [if_pos c9] at H
              have c9b0 := eq_true c9
              have c9b1 : decide (5 ≤ 7) = true := decide_eq_true c9
              clear c9
              by_cases c10 : 7 ≤ (a0.size : Int)
              · rw [if_pos c10] at H
                have c10b0 := eq_true c10
                have c10b1 : decide (7 ≤ (a0.size : Int)) = true := decide_eq_true c10
                clear c10
                replace H := Option.bind_eq_some_iff.mp H
                obtain ⟨t205, A110, H⟩ := H
                replace H : (if 17 ≤ 19 then (if 19 ≤ (a0.size : Int) then ((date_digits.f k (a0.extract 17 19)).bind fun t206 => (if 20 ≤ 22 then (if 22 ≤ (a0.size : Int) then ((date_digits.f k (a0.extract 20 22)).bind fun t207 => (if 23 ≤ 25 then (if 25 ≤ (a0.size : Int) then ((date_digits.f k (a0.extract 23 25)).bind fun t208 => (if t203 < 0 then (date_Read.j0 k a0 t203 t204 t205 t206 t207 t208 true) else (if (Int.tmod t203 3) = 0 then (if t205 < 1 then (date_Read.j0 k a0 t203 t204 t205 t206 t207 t208 true) else ((date_Days.f k t204 (wrap64 ((wrap64 (Int.tdiv t203 3)) + 1))).bind fun t209 => (if t205 > t209 then (date_Read.j0 k a0 t203 t204 t205 t206 t207 t208 true) else (if t206 < 0 then (date_Read.j0 k a0 t203 t204 t205 t206 t207 t208 true) else (if t206 > 23 then (date_Read.j0 k a0 t203 t204 t205 t206 t207 t208 true) else (if t207 < 0 then (date_Read.j0 k a0 t203 t204 t205 t206 t207 t208 true) else (if t207 > 59 then (date_Read.j0 k a0 t203 t204 t205 t206 t207 t208 true) else (if t208 < 0 then (date_Read.j0 k a0 t203 t204 t205 t206 t207 t208 true) else (date_Read.j0 k a0 t203 t204 t205 t206 t207 t208 (decide (t208 > 59))))))))))) else (date_Read.j0 k a0 t203 t204 t205 t206 t207 t208 true)))) else (none)) else (none))) else (none)) else (none))) else (none)) else (none)) = some (r1, r2) := H
                have A11 := Aside0.mk A110
                clear A110
                by_cases c12 : 17 ≤ 19
                · rw [if_pos c12] at H
                  have c12b0 := eq_true c12
                  have c12b1 : decide (17 ≤ 19) = true := decide_eq_true c12
                  clear c12
                  by_cases c13 : 19 ≤ (a0.size : Int)
                  · rw [if_pos c13] at H
                    have c13b0 := eq_true c13
                    have c13b1 : decide (19 ≤ (a0.size : Int)) = true := decide_eq_true c13
                    clear c13
                    replace H := Option.bind_eq_some_iff.mp H
                    obtain ⟨t206, A140, H⟩ := H
                    replace H : (if 20 ≤ 22 then (if 22 ≤ (a0.size : Int) then ((date_digits.f k (a0.extract 20 22)).bind fun t207 => (if 23 ≤ 25 then (if 25 ≤ (a0.size : Int) then ((date_digits.f k (a0.extract 23 25)).bind fun t208 => (if t203 < 0 then (date_Read.j0 k a0 t203 t204 t205 t206 t207 t208 true) else (if (Int.tmod t203 3) = 0 then (if t205 < 1 then (date_Read.j0 k a0 t203 t204 t205 t206 t207 t208 true) else ((date_Days.f k t204 (wrap64 ((wrap64 (Int.tdiv t203 3)) + 1))).bind fun t209 => (if t205 > t209 then (date_Read.j0 k a0 t203 t204 t205 t206 t207 t208 true) else (if t206 < 0 then (date_Read.j0 k a0 t203 t204 t205 t206 t207 t208 true) else (if t206 > 23 then (date_Read.j0 k a0 t203 t204 t205 t206 t207 t208 true) else (if t207 < 0 then (date_Read.j0 k a0 t203 t204 t205 t206 t207 t208 true) else (if t207 > 59 then (date_Read.j0 k a0 t203 t204 t205 t206 t207 t208 true) else (if t208 < 0 then (date_Read.j0 k a0 t203 t204 t205 t206 t207 t208 true) else (date_Read.j0 k a0 t203 t204 t205 t206 t207 t208 (decide (t208 > 59))))))))))) else (date_Read.j0 k a0 t203 t204 t205 t206 t207 t208 true)))) else (none)) else (none))) else (none)) else (none)) = some (r1, r2) := H
                    have A14 := Aside0.mk A140
                    clear A140
                    by_cases c15 : 20 ≤ 22
                    · rw [if_pos c15] at H
                      have c15b0 := eq_true c15
                      have c15b1 : decide (20 ≤ 22) = true := decide_eq_true c15
                      clear c15
                      by_cases c16 : 22 ≤ (a0.size : Int)
                      · rw [if_pos c16] at H
                        have c16b0 := eq_true c16
                        have c16b1 : decide (22 ≤ (a0.size : Int)) = true := decide_eq_true c16
                        clear c16
                        replace H := Option.bind_eq_some_iff.mp H
                        obtain ⟨t207, A170, H⟩ := H
                        replace H : (if 23 ≤ 25 then (if 25 ≤ (a0.size : Int) then ((date_digits.f k (a0.extract 23 25)).bind fun t208 => (if t203 < 0 then (date_Read.j0 k a0 t203 t204 t205 t206 t207 t208 true) else (if (Int.tmod t203 3) = 0 then (if t205 < 1 then (date_Read.j0 k a0 t203 t204 t205 t206 t207 t208 true) else ((date_Days.f k t204 (wrap64 ((wrap64 (Int.tdiv t203 3)) + 1))).bind fun t209 => (if t205 > t209 then (date_Read.j0 k a0 t203 t204 t205 t206 t207 t208 true) else (if t206 < 0 then (date_Read.j0 k a0 t203 t204 t205 t206 t207 t208 true) else (if t206 > 23 then (date_Read.j0 k a0 t203 t204 t205 t206 t207 t208 true) else (if t207 < 0 then (date_Read.j0 k a0 t203 t204 t205 t206 t207 t208 true) else (if t207 > 59 then (date_Read.j0 k a0 t203 t204 t205 t206 t207 t208 true) else (if t208 < 0 then (date_Read.j0 k a0 t203 t204 t205 t206 t207 t208 true) else (date_Read.j0 k a0 t203 t204 t205 t206 t207 t208 (decide (t208 > 59))))))))))) else (date_Read.j0 k a0 t203 t204 t205 t206 t207 t208 true)))) else (none)) else (none)) = some (r1, r2) := H
                        have A17 := Aside0.mk A170
                        clear A170
                        by_cases c18 : 23 ≤ 25
                        · rw [if_pos c18] at H
                          have c18b0 := eq_true c18
                          have c18b1 : decide (23 ≤ 25) = true := decide_eq_true c18
                          clear c18
                          by_cases c19 : 25 ≤ (a0.size : Int)
                          · rw [if_pos c19] at H
                            have c19b0 := eq_true c19
                            have c19b1 : decide (25 ≤ (a0.size : Int)) = true := decide_eq_true c19
                            clear c19
                            replace H := Option.bind_eq_some_iff.mp H
                            obtain ⟨t208, A200, H⟩ := H
                            replace H : (if t203 < 0 then (date_Read.j0 k a0 t203 t204 t205 t206 t207 t208 true) else (if (Int.tmod t203 3) = 0 then (if t205 < 1 then (date_Read.j0 k a0 t203 t204 t205 t206 t207 t208 true) else ((date_Days.f k t204 (wrap64 ((wrap64 (Int.tdiv t203 3)) + 1))).bind fun t209 => (if t205 > t209 then (date_Read.j0 k a0 t203 t204 t205 t206 t207 t208 true) else (if t206 < 0 then (date_Read.j0 k a0 t203 t204 t205 t206 t207 t208 true) else (if t206 > 23 then (date_Read.j0 k a0 t203 t204 t205 t206 t207 t208 true) else (if t207 < 0 then (date_Read.j0 k a0 t203 t204 t205 t206 t207 t208 true) else (if t207 > 59 then (date_Read.j0 k a0 t203 t204 t205 t206 t207 t208 true) else (if t208 < 0 then (date_Read.j0 k a0 t203 t204 t205 t206 t207 t208 true) else (date_Read.j0 k a0 t203 t204 t205 t206 t207 t208 (decide (t208 > 59))))))))))) else (date_Read.j0 k a0 t203 t204 t205 t206 t207 t208 true))) = some (r1, r2) := H
                            have A20 := Aside0.mk A200
                            clear A200
                            have HC21 := Aside0.mk H
                            clear H
                            go_enter Tryd.func66, Tryd.ntmps66
                            go_upto_region 6 with (first | (go_at_call 75; (with_reducible refine (strings_Index.calls (⟨#[74, 97, 110, 70, 101, 98, 77, 97, 114, 65, 112, 114, 77, 97, 121, 74, 117, 110, 74, 117, 108, 65, 117, 103, 83, 101, 112, 79, 99, 116, 78, 111, 118, 68, 101, 99]⟩ : ByteArray) (a0.extract 8 11) t203 _ ?side1 A5.out).mono ?_); (case side1 => repeat (first | exact HRW.out | (with_reducible refine Kd.C_alloc ?_ _) | (with_reducible refine Kd.C_drewN ?_ _) | (with_reducible refine Kd.C_drew ?_))); rintro e w' ⟨rfl, ⟨nd, rfl⟩⟩; (try first | exact ⟨rfl, _, World.drewN_drewN _ _ _⟩ | exact ⟨rfl, _, Eq.trans (World.drewN_drewN _ _ _) (congrArg (World.drewN _) (Nat.add_assoc _ _ _))⟩)) | (go_at_call 76; (with_reducible refine (date_digits.calls k (a0.extract 12 16) t204 _ A8.out).mono ?_); rintro e w' ⟨rfl, ⟨nd, rfl⟩⟩; (try first | exact ⟨rfl, _, World.drewN_drewN _ _ _⟩ | exact ⟨rfl, _, Eq.trans (World.drewN_drewN _ _ _) (congrArg (World.drewN _) (Nat.add_assoc _ _ _))⟩)) | (go_at_call 76; (with_reducible refine (date_digits.calls k (a0.extract 5 7) t205 _ A11.out).mono ?_); rintro e w' ⟨rfl, ⟨nd, rfl⟩⟩; (try first | exact ⟨rfl, _, World.drewN_drewN _ _ _⟩ | exact ⟨rfl, _, Eq.trans (World.drewN_drewN _ _ _) (congrArg (World.drewN _) (Nat.add_assoc _ _ _))⟩)) | (go_at_call 76; (with_reducible refine (date_digits.calls k (a0.extract 17 19) t206 _ A14.out).mono ?_); rintro e w' ⟨rfl, ⟨nd, rfl⟩⟩; (try first | exact ⟨rfl, _, World.drewN_drewN _ _ _⟩ | exact ⟨rfl, _, Eq.trans (World.drewN_drewN _ _ _) (congrArg (World.drewN _) (Nat.add_assoc _ _ _))⟩)) | (go_at_call 76; (with_reducible refine (date_digits.calls k (a0.extract 20 22) t207 _ A17.out).mono ?_); rintro e w' ⟨rfl, ⟨nd, rfl⟩⟩; (try first | exact ⟨rfl, _, World.drewN_drewN _ _ _⟩ | exact ⟨rfl, _, Eq.trans (World.drewN_drewN _ _ _) (congrArg (World.drewN _) (Nat.add_assoc _ _ _))⟩)) | (go_at_call 76; (with_reducible refine (date_digits.calls k (a0.extract 23 25) t208 _ A20.out).mono ?_); rintro e w' ⟨rfl, ⟨nd, rfl⟩⟩; (try first | exact ⟨rfl, _, World.drewN_drewN _ _ _⟩ | exact ⟨rfl, _, Eq.trans (World.drewN_drewN _ _ _) (congrArg (World.drewN _) (Nat.add_assoc _ _ _))⟩)))
                            repeat (go_quiet (first | (go_at_call 75; (with_reducible refine (strings_Index.calls (⟨#[74, 97, 110, 70, 101, 98, 77, 97, 114, 65, 112, 114, 77, 97, 121, 74, 117, 110, 74, 117, 108, 65, 117, 103, 83, 101, 112, 79, 99, 116, 78, 111, 118, 68, 101, 99]⟩ : ByteArray) (a0.extract 8 11) t203 _ ?side1 A5.out).mono ?_); (case side1 => repeat (first | exact HRW.out | (with_reducible refine Kd.C_alloc ?_ _) | (with_reducible refine Kd.C_drewN ?_ _) | (with_reducible refine Kd.C_drew ?_))); rintro e w' ⟨rfl, ⟨nd, rfl⟩⟩; (try first | exact ⟨rfl, _, World.drewN_drewN _ _ _⟩ | exact ⟨rfl, _, Eq.trans (World.drewN_drewN _ _ _) (congrArg (World.drewN _) (Nat.add_assoc _ _ _))⟩)) | (go_at_call 76; (with_reducible refine (date_digits.calls k (a0.extract 12 16) t204 _ A8.out).mono ?_); rintro e w' ⟨rfl, ⟨nd, rfl⟩⟩; (try first | exact ⟨rfl, _, World.drewN_drewN _ _ _⟩ | exact ⟨rfl, _, Eq.trans (World.drewN_drewN _ _ _) (congrArg (World.drewN _) (Nat.add_assoc _ _ _))⟩)) | (go_at_call 76; (with_reducible refine (date_digits.calls k (a0.extract 5 7) t205 _ A11.out).mono ?_); rintro e w' ⟨rfl, ⟨nd, rfl⟩⟩; (try first | exact ⟨rfl, _, World.drewN_drewN _ _ _⟩ | exact ⟨rfl, _, Eq.trans (World.drewN_drewN _ _ _) (congrArg (World.drewN _) (Nat.add_assoc _ _ _))⟩)) | (go_at_call 76; (with_reducible refine (date_digits.calls k (a0.extract 17 19) t206 _ A14.out).mono ?_); rintro e w' ⟨rfl, ⟨nd, rfl⟩⟩; (try first | exact ⟨rfl, _, World.drewN_drewN _ _ _⟩ | exact ⟨rfl, _, Eq.trans (World.drewN_drewN _ _ _) (congrArg (World.drewN _) (Nat.add_assoc _ _ _))⟩)) | (go_at_call 76; (with_reducible refine (date_digits.calls k (a0.extract 20 22) t207 _ A17.out).mono ?_); rintro e w' ⟨rfl, ⟨nd, rfl⟩⟩; (try first | exact ⟨rfl, _, World.drewN_drewN _ _ _⟩ | exact ⟨rfl, _, Eq.trans (World.drewN_drewN _ _ _) (congrArg (World.drewN _) (Nat.add_assoc _ _ _))⟩)) | (go_at_call 76; (with_reducible refine (date_digits.calls k (a0.extract 23 25) t208 _ A20.out).mono ?_); rintro e w' ⟨rfl, ⟨nd, rfl⟩⟩; (try first | exact ⟨rfl, _, World.drewN_drewN _ _ _⟩ | exact ⟨rfl, _, Eq.trans (World.drewN_drewN _ _ _) (congrArg (World.drewN _) (Nat.add_assoc _ _ _))⟩))); go_upto_region 6 with (first | (go_at_call 75; (with_reducible refine (strings_Index.calls (⟨#[74, 97, 110, 70, 101, 98, 77, 97, 114, 65, 112, 114, 77, 97, 121, 74, 117, 110, 74, 117, 108, 65, 117, 103, 83, 101, 112, 79, 99, 116, 78, 111, 118, 68, 101, 99]⟩ : ByteArray) (a0.extract 8 11) t203 _ ?side1 A5.out).mono ?_); (case side1 => repeat (first | exact HRW.out | (with_reducible refine Kd.C_alloc ?_ _) | (with_reducible refine Kd.C_drewN ?_ _) | (with_reducible refine Kd.C_drew ?_))); rintro e w' ⟨rfl, ⟨nd, rfl⟩⟩; (try first | exact ⟨rfl, _, World.drewN_drewN _ _ _⟩ | exact ⟨rfl, _, Eq.trans (World.drewN_drewN _ _ _) (congrArg (World.drewN _) (Nat.add_assoc _ _ _))⟩)) | (go_at_call 76; (with_reducible refine (date_digits.calls k (a0.extract 12 16) t204 _ A8.out).mono ?_); rintro e w' ⟨rfl, ⟨nd, rfl⟩⟩; (try first | exact ⟨rfl, _, World.drewN_drewN _ _ _⟩ | exact ⟨rfl, _, Eq.trans (World.drewN_drewN _ _ _) (congrArg (World.drewN _) (Nat.add_assoc _ _ _))⟩)) | (go_at_call 76; (with_reducible refine (date_digits.calls k (a0.extract 5 7) t205 _ A11.out).mono ?_); rintro e w' ⟨rfl, ⟨nd, rfl⟩⟩; (try first | exact ⟨rfl, _, World.drewN_drewN _ _ _⟩ | exact ⟨rfl, _, Eq.trans (World.drewN_drewN _ _ _) (congrArg (World.drewN _) (Nat.add_assoc _ _ _))⟩)) | (go_at_call 76; (with_reducible refine (date_digits.calls k (a0.extract 17 19) t206 _ A14.out).mono ?_); rintro e w' ⟨rfl, ⟨nd, rfl⟩⟩; (try first | exact ⟨rfl, _, World.drewN_drewN _ _ _⟩ | exact ⟨rfl, _, Eq.trans (World.drewN_drewN _ _ _) (congrArg (World.drewN _) (Nat.add_assoc _ _ _))⟩)) | (go_at_call 76; (with_reducible refine (date_digits.calls k (a0.extract 20 22) t207 _ A17.out).mono ?_); rintro e w' ⟨rfl, ⟨nd, rfl⟩⟩; (try first | exact ⟨rfl, _, World.drewN_drewN _ _ _⟩ | exact ⟨rfl, _, Eq.trans (World.drewN_drewN _ _ _) (congrArg (World.drewN _) (Nat.add_assoc _ _ _))⟩)) | (go_at_call 76; (with_reducible refine (date_digits.calls k (a0.extract 23 25) t208 _ A20.out).mono ?_); rintro e w' ⟨rfl, ⟨nd, rfl⟩⟩; (try first | exact ⟨rfl, _, World.drewN_drewN _ _ _⟩ | exact ⟨rfl, _, Eq.trans (World.drewN_drewN _ _ _) (congrArg (World.drewN _) (Nat.add_assoc _ _ _))⟩))))
                            (try simp only [Act.put, List.setIfInBounds_toArray, List.set_cons_zero, List.set_cons_succ])
                            go_cut [79] (fun v79 wc => ∃ (kq : Nat) (x79_20 : Bool), v79 = .bool x79_20 ∧ Aside0 (date_Read.j0 kq a0 t203 t204 t205 t206 t207 t208 x79_20 = some (r1, r2)) ∧ Aside0 (kq ≤ k) ∧ Aside0 (Below w.heap.size w wc))
                            case first =>
                              have H := HC21.out
                              clear HC21
                              by_cases c22 : t203 < 0
                              · rw [if_pos c22] at H
                                have c22b0 : decide (t203 < 0) = true := decide_eq_true c22
                                clear c22
                                (first | rw [c22b0] | (simp only [i64_w, i32_w]; rw [c22b0]) | skip)
                                have H' := Aside0.mk H
                                clear H
                                go_wp2
                                repeat (go_quiet (fail); try go_wp2)
                                go_meet
                                case rel => exact ⟨_, (true), (by first | rfl | (simp; done) | (simp [*]; done)), H', ⟨by first | omega | exact Nat.le_refl _⟩, ⟨by repeat (first | (with_reducible first | exact HB.out | apply below_alloc | apply pw_below_drewN | apply below_drew1) | exact HB.out)⟩⟩
                              · rw [if_neg c22] at H
                                have c22b0 : decide (t203 < 0) = false := decide_eq_false c22
                                clear c22
                                (first | rw [c22b0] | (simp only [i64_w, i32_w]; rw [c22b0]) | skip)
                                by_cases c23 : (Int.tmod t203 3) = 0
                                · rw [if_pos c23] at H
                                  have c23b0 : ((Int.tmod t203 3) == 0) = true := beq_iff_eq.mpr c23
                                  have c23b1 : ((Int.tmod t203 3) != 0) = false := bne_eq_false_iff_eq.mpr c23
                                  clear c23
                                  by_cases c24 : t205 < 1
                                  · rw [if_pos c24] at H
                                    have c24b0 : decide (t205 < 1) = true := decide_eq_true c24
                                    clear c24
                                    have H' := Aside0.mk H
                                    clear H
                                    go_wp2
                                    repeat (go_quiet (fail); try go_wp2)
                                    go_meet
                                    case rel => exact ⟨_, (true), (by first | rfl | (simp; done) | (simp [*]; done)), H', ⟨by first | omega | exact Nat.le_refl _⟩, ⟨by repeat (first | (with_reducible first | exact HB.out | apply below_alloc | apply pw_below_drewN | apply below_drew1) | exact HB.out)⟩⟩
                                  · rw [if_neg c24] at H
                                    have c24b0 : decide (t205 < 1) = false := decide_eq_false c24
                                    clear c24
                                    replace H := Option.bind_eq_some_iff.mp H
                                    obtain ⟨t209, A250, H⟩ := H
                                    replace H : (if t205 > t209 then (date_Read.j0 k a0 t203 t204 t205 t206 t207 t208 true) else (if t206 < 0 then (date_Read.j0 k a0 t203 t204 t205 t206 t207 t208 true) else (if t206 > 23 then (date_Read.j0 k a0 t203 t204 t205 t206 t207 t208 true) else (if t207 < 0 then (date_Read.j0 k a0 t203 t204 t205 t206 t207 t208 true) else (if t207 > 59 then (date_Read.j0 k a0 t203 t204 t205 t206 t207 t208 true) else (if t208 < 0 then (date_Read.j0 k a0 t203 t204 t205 t206 t207 t208 true) else (date_Read.j0 k a0 t203 t204 t205 t206 t207 t208 (decide (t208 > 59))))))))) = some (r1, r2) := H
                                    have A25 := Aside0.mk A250
                                    clear A250
                                    by_cases c26 : t205 > t209
                                    · rw [if_pos c26] at H
                                      have c26b0 : decide (t209 < t205) = true := decide_eq_true c26
                                      clear c26
                                      have H' := Aside0.mk H
                                      clear H
                                      go_wp2_with (first | (go_at_call 77; (with_reducible refine (date_Days.calls k t204 (wrap64 ((wrap64 (Int.tdiv t203 3)) + 1)) t209 _ A25.out).mono ?_); rintro e w' ⟨rfl, ⟨nd, rfl⟩⟩; (try first | exact ⟨rfl, _, World.drewN_drewN _ _ _⟩ | exact ⟨rfl, _, Eq.trans (World.drewN_drewN _ _ _) (congrArg (World.drewN _) (Nat.add_assoc _ _ _))⟩)))
                                      repeat (go_quiet (first | (go_at_call 77; (with_reducible refine (date_Days.calls k t204 (wrap64 ((wrap64 (Int.tdiv t203 3)) + 1)) t209 _ A25.out).mono ?_); rintro e w' ⟨rfl, ⟨nd, rfl⟩⟩; (try first | exact ⟨rfl, _, World.drewN_drewN _ _ _⟩ | exact ⟨rfl, _, Eq.trans (World.drewN_drewN _ _ _) (congrArg (World.drewN _) (Nat.add_assoc _ _ _))⟩))); try go_wp2_with (first | (go_at_call 77; (with_reducible refine (date_Days.calls k t204 (wrap64 ((wrap64 (Int.tdiv t203 3)) + 1)) t209 _ A25.out).mono ?_); rintro e w' ⟨rfl, ⟨nd, rfl⟩⟩; (try first | exact ⟨rfl, _, World.drewN_drewN _ _ _⟩ | exact ⟨rfl, _, Eq.trans (World.drewN_drewN _ _ _) (congrArg (World.drewN _) (Nat.add_assoc _ _ _))⟩))))
                                      go_meet
                                      case rel => exact ⟨_, (true), (by first | rfl | (simp; done) | (simp [*]; done)), H', ⟨by first | omega | exact Nat.le_refl _⟩, ⟨by repeat (first | (with_reducible first | exact HB.out | apply below_alloc | apply pw_below_drewN | apply below_drew1) | exact HB.out)⟩⟩
                                    · rw [if_neg c26] at H
                                      have c26b0 : decide (t209 < t205) = false := decide_eq_false c26
                                      clear c26
                                      by_cases c27 : t206 < 0
                                      · rw [if_pos c27] at H
                                        have c27b0 : decide (t206 < 0) = true := decide_eq_true c27
                                        clear c27
                                        have H' := Aside0.mk H
                                        clear H
                                        go_wp2_with (first | (go_at_call 77; (with_reducible refine (date_Days.calls k t204 (wrap64 ((wrap64 (Int.tdiv t203 3)) + 1)) t209 _ A25.out).mono ?_); rintro e w' ⟨rfl, ⟨nd, rfl⟩⟩; (try first | exact ⟨rfl, _, World.drewN_drewN _ _ _⟩ | exact ⟨rfl, _, Eq.trans (World.drewN_drewN _ _ _) (congrArg (World.drewN _) (Nat.add_assoc _ _ _))⟩)))
                                        repeat (go_quiet (first | (go_at_call 77; (with_reducible refine (date_Days.calls k t204 (wrap64 ((wrap64 (Int.tdiv t203 3)) + 1)) t209 _ A25.out).mono ?_); rintro e w' ⟨rfl, ⟨nd, rfl⟩⟩; (try first | exact ⟨rfl, _, World.drewN_drewN _ _ _⟩ | exact ⟨rfl, _, Eq.trans (World.drewN_drewN _ _ _) (congrArg (World.drewN _) (Nat.add_assoc _ _ _))⟩))); try go_wp2_with (first | (go_at_call 77; (with_reducible refine (date_Days.calls k t204 (wrap64 ((wrap64 (Int.tdiv t203 3)) + 1)) t209 _ A25.out).mono ?_); rintro e w' ⟨rfl, ⟨nd, rfl⟩⟩; (try first | exact ⟨rfl, _, World.drewN_drewN _ _ _⟩ | exact ⟨rfl, _, Eq.trans (World.drewN_drewN _ _ _) (congrArg (World.drewN _) (Nat.add_assoc _ _ _))⟩))))
                                        go_meet
                                        case rel => exact ⟨_, (true), (by first | rfl | (simp; done) | (simp [*]; done)), H', ⟨by first | omega | exact Nat.le_refl _⟩, ⟨by repeat (first | (with_reducible first | exact HB.out | apply below_alloc | apply pw_below_drewN | apply below_drew1) | exact HB.out)⟩⟩
                                      · rw [if_neg c27] at H
                                        have c27b0 : decide (t206 < 0) = false := decide_eq_false c27
                                        clear c27
                                        by_cases c28 : t206 > 23
                                        · rw [if_pos c28] at H
                                          have c28b0 : decide (23 < t206) = true := decide_eq_true c28
                                          clear c28
                                          have H' := Aside0.mk H
                                          clear H
                                          go_wp2_with (first | (go_at_call 77; (with_reducible refine (date_Days.calls k t204 (wrap64 ((wrap64 (Int.tdiv t203 3)) + 1)) t209 _ A25.out).mono ?_); rintro e w' ⟨rfl, ⟨nd, rfl⟩⟩; (try first | exact ⟨rfl, _, World.drewN_drewN _ _ _⟩ | exact ⟨rfl, _, Eq.trans (World.drewN_drewN _ _ _) (congrArg (World.drewN _) (Nat.add_assoc _ _ _))⟩)))
                                          repeat (go_quiet (first | (go_at_call 77; (with_reducible refine (date_Days.calls k t204 (wrap64 ((wrap64 (Int.tdiv t203 3)) + 1)) t209 _ A25.out).mono ?_); rintro e w' ⟨rfl, ⟨nd, rfl⟩⟩; (try first | exact ⟨rfl, _, World.drewN_drewN _ _ _⟩ | exact ⟨rfl, _, Eq.trans (World.drewN_drewN _ _ _) (congrArg (World.drewN _) (Nat.add_assoc _ _ _))⟩))); try go_wp2_with (first | (go_at_call 77; (with_reducible refine (date_Days.calls k t204 (wrap64 ((wrap64 (Int.tdiv t203 3)) + 1)) t209 _ A25.out).mono ?_); rintro e w' ⟨rfl, ⟨nd, rfl⟩⟩; (try first | exact ⟨rfl, _, World.drewN_drewN _ _ _⟩ | exact ⟨rfl, _, Eq.trans (World.drewN_drewN _ _ _) (congrArg (World.drewN _) (Nat.add_assoc _ _ _))⟩))))
                                          go_meet
                                          case rel => exact ⟨_, (true), (by first | rfl | (simp; done) | (simp [*]; done)), H', ⟨by first | omega | exact Nat.le_refl _⟩, ⟨by repeat (first | (with_reducible first | exact HB.out | apply below_alloc | apply pw_below_drewN | apply below_drew1) | exact HB.out)⟩⟩
                                        · rw [if_neg c28] at H
                                          have c28b0 : decide (23 < t206) = false := decide_eq_false c28
                                          clear c28
                                          by_cases c29 : t207 < 0
                                          · rw [if_pos c29] at H
                                            have c29b0 : decide (t207 < 0) = true := decide_eq_true c29
                                            clear c29
                                            have H' := Aside0.mk H
                                            clear H
                                            go_wp2_with (first | (go_at_call 77; (with_reducible refine (date_Days.calls k t204 (wrap64 ((wrap64 (Int.tdiv t203 3)) + 1)) t209 _ A25.out).mono ?_); rintro e w' ⟨rfl, ⟨nd, rfl⟩⟩; (try first | exact ⟨rfl, _, World.drewN_drewN _ _ _⟩ | exact ⟨rfl, _, Eq.trans (World.drewN_drewN _ _ _) (congrArg (World.drewN _) (Nat.add_assoc _ _ _))⟩)))
                                            repeat (go_quiet (first | (go_at_call 77; (with_reducible refine (date_Days.calls k t204 (wrap64 ((wrap64 (Int.tdiv t203 3)) + 1)) t209 _ A25.out).mono ?_); rintro e w' ⟨rfl, ⟨nd, rfl⟩⟩; (try first | exact ⟨rfl, _, World.drewN_drewN _ _ _⟩ | exact ⟨rfl, _, Eq.trans (World.drewN_drewN _ _ _) (congrArg (World.drewN _) (Nat.add_assoc _ _ _))⟩))); try go_wp2_with (first | (go_at_call 77; (with_reducible refine (date_Days.calls k t204 (wrap64 ((wrap64 (Int.tdiv t203 3)) + 1)) t209 _ A25.out).mono ?_); rintro e w' ⟨rfl, ⟨nd, rfl⟩⟩; (try first | exact ⟨rfl, _, World.drewN_drewN _ _ _⟩ | exact ⟨rfl, _, Eq.trans (World.drewN_drewN _ _ _) (congrArg (World.drewN _) (Nat.add_assoc _ _ _))⟩))))
                                            go_meet
                                            case rel => exact ⟨_, (true), (by first | rfl | (simp; done) | (simp [*]; done)), H', ⟨by first | omega | exact Nat.le_refl _⟩, ⟨by repeat (first | (with_reducible first | exact HB.out | apply below_alloc | apply pw_below_drewN | apply below_drew1) | exact HB.out)⟩⟩
                                          · rw [if_neg c29] at H
                                            have c29b0 : decide (t207 < 0) = false := decide_eq_false c29
                                            clear c29
                                            by_cases c30 : t207 > 59
                                            · rw [if_pos c30] at H
                                              have c30b0 : decide (59 < t207) = true := decide_eq_true c30
                                              clear c30
                                              have H' := Aside0.mk H
                                              clear H
                                              go_wp2_with (first | (go_at_call 77; (with_reducible refine (date_Days.calls k t204 (wrap64 ((wrap64 (Int.tdiv t203 3)) + 1)) t209 _ A25.out).mono ?_); rintro e w' ⟨rfl, ⟨nd, rfl⟩⟩; (try first | exact ⟨rfl, _, World.drewN_drewN _ _ _⟩ | exact ⟨rfl, _, Eq.trans (World.drewN_drewN _ _ _) (congrArg (World.drewN _) (Nat.add_assoc _ _ _))⟩)))
                                              repeat (go_quiet (first | (go_at_call 77; (with_reducible refine (date_Days.calls k t204 (wrap64 ((wrap64 (Int.tdiv t203 3)) + 1)) t209 _ A25.out).mono ?_); rintro e w' ⟨rfl, ⟨nd, rfl⟩⟩; (try first | exact ⟨rfl, _, World.drewN_drewN _ _ _⟩ | exact ⟨rfl, _, Eq.trans (World.drewN_drewN _ _ _) (congrArg (World.drewN _) (Nat.add_assoc _ _ _))⟩))); try go_wp2_with (first | (go_at_call 77; (with_reducible refine (date_Days.calls k t204 (wrap64 ((wrap64 (Int.tdiv t203 3)) + 1)) t209 _ A25.out).mono ?_); rintro e w' ⟨rfl, ⟨nd, rfl⟩⟩; (try first | exact ⟨rfl, _, World.drewN_drewN _ _ _⟩ | exact ⟨rfl, _, Eq.trans (World.drewN_drewN _ _ _) (congrArg (World.drewN _) (Nat.add_assoc _ _ _))⟩))))
                                              go_meet
                                              case rel => exact ⟨_, (true), (by first | rfl | (simp; done) | (simp [*]; done)), H', ⟨by first | omega | exact Nat.le_refl _⟩, ⟨by repeat (first | (with_reducible first | exact HB.out | apply below_alloc | apply pw_below_drewN | apply below_drew1) | exact HB.out)⟩⟩
                                            · rw [if_neg c30] at H
                                              have c30b0 : decide (59 < t207) = false := decide_eq_false c30
                                              clear c30
                                              by_cases c31 : t208 < 0
                                              · rw [if_pos c31] at H
                                                have c31b0 : decide (t208 < 0) = true := decide_eq_true c31
                                                clear c31
                                                have H' := Aside0.mk H
                                                clear H
                                                go_wp2_with (first | (go_at_call 77; (with_reducible refine (date_Days.calls k t204 (wrap64 ((wrap64 (Int.tdiv t203 3)) + 1)) t209 _ A25.out).mono ?_); rintro e w' ⟨rfl, ⟨nd, rfl⟩⟩; (try first | exact ⟨rfl, _, World.drewN_drewN _ _ _⟩ | exact ⟨rfl, _, Eq.trans (World.drewN_drewN _ _ _) (congrArg (World.drewN _) (Nat.add_assoc _ _ _))⟩)))
                                                repeat (go_quiet (first | (go_at_call 77; (with_reducible refine (date_Days.calls k t204 (wrap64 ((wrap64 (Int.tdiv t203 3)) + 1)) t209 _ A25.out).mono ?_); rintro e w' ⟨rfl, ⟨nd, rfl⟩⟩; (try first | exact ⟨rfl, _, World.drewN_drewN _ _ _⟩ | exact ⟨rfl, _, Eq.trans (World.drewN_drewN _ _ _) (congrArg (World.drewN _) (Nat.add_assoc _ _ _))⟩))); try go_wp2_with (first | (go_at_call 77; (with_reducible refine (date_Days.calls k t204 (wrap64 ((wrap64 (Int.tdiv t203 3)) + 1)) t209 _ A25.out).mono ?_); rintro e w' ⟨rfl, ⟨nd, rfl⟩⟩; (try first | exact ⟨rfl, _, World.drewN_drewN _ _ _⟩ | exact ⟨rfl, _, Eq.trans (World.drewN_drewN _ _ _) (congrArg (World.drewN _) (Nat.add_assoc _ _ _))⟩))))
                                                go_meet
                                                case rel => exact ⟨_, (true), (by first | rfl | (simp; done) | (simp [*]; done)), H', ⟨by first | omega | exact Nat.le_refl _⟩, ⟨by repeat (first | (with_reducible first | exact HB.out | apply below_alloc | apply pw_below_drewN | apply below_drew1) | exact HB.out)⟩⟩
                                              · rw [if_neg c31] at H
                                                have c31b0 : decide (t208 < 0) = false := decide_eq_false c31
                                                clear c31
                                                have H' := Aside0.mk H
                                                clear H
                                                go_wp2_with (first | (go_at_call 77; (with_reducible refine (date_Days.calls k t204 (wrap64 ((wrap64 (Int.tdiv t203 3)) + 1)) t209 _ A25.out).mono ?_); rintro e w' ⟨rfl, ⟨nd, rfl⟩⟩; (try first | exact ⟨rfl, _, World.drewN_drewN _ _ _⟩ | exact ⟨rfl, _, Eq.trans (World.drewN_drewN _ _ _) (congrArg (World.drewN _) (Nat.add_assoc _ _ _))⟩)))
                                                repeat (go_quiet (first | (go_at_call 77; (with_reducible refine (date_Days.calls k t204 (wrap64 ((wrap64 (Int.tdiv t203 3)) + 1)) t209 _ A25.out).mono ?_); rintro e w' ⟨rfl, ⟨nd, rfl⟩⟩; (try first | exact ⟨rfl, _, World.drewN_drewN _ _ _⟩ | exact ⟨rfl, _, Eq.trans (World.drewN_drewN _ _ _) (congrArg (World.drewN _) (Nat.add_assoc _ _ _))⟩))); try go_wp2_with (first | (go_at_call 77; (with_reducible refine (date_Days.calls k t204 (wrap64 ((wrap64 (Int.tdiv t203 3)) + 1)) t209 _ A25.out).mono ?_); rintro e w' ⟨rfl, ⟨nd, rfl⟩⟩; (try first | exact ⟨rfl, _, World.drewN_drewN _ _ _⟩ | exact ⟨rfl, _, Eq.trans (World.drewN_drewN _ _ _) (congrArg (World.drewN _) (Nat.add_assoc _ _ _))⟩))))
                                                go_meet
                                                case rel => exact ⟨_, (decide (t208 > 59)), (by first | rfl | (simp; done) | (simp [*]; done)), H', ⟨by first | omega | exact Nat.le_refl _⟩, ⟨by repeat (first | (with_reducible first | exact HB.out | apply below_alloc | apply pw_below_drewN | apply below_drew1) | exact HB.out)⟩⟩
                                · rw [if_neg c23] at H
                                  have c23b0 : ((Int.tmod t203 3) == 0) = false := beq_eq_false_iff_ne.mpr c23
                                  have c23b1 : ((Int.tmod t203 3) != 0) = true := bne_iff_ne.mpr c23
                                  have H' := Aside0.mk H
                                  clear H
                                  go_wp2
                                  repeat (go_quiet (fail); try go_wp2)
                                  go_meet
                                  case rel => exact ⟨_, (true), (by first | rfl | (simp; done) | (simp [*]; done)), H', ⟨by first | omega | exact Nat.le_refl _⟩, ⟨by repeat (first | (with_reducible first | exact HB.out | apply below_alloc | apply pw_below_drewN | apply below_drew1) | exact HB.out)⟩⟩
                            case rest =>
                              clear HC21
                              try clear c1
                              try clear c2
                              try clear c2b0
                              try clear c2b1
                              try clear p2
                              try clear c3
                              try clear c3b0
                              try clear c3b1
                              try clear c4
                              try clear c4b0
                              try clear c4b1
                              try clear c6
                              try clear c6b0
                              try clear c6b1
                              try clear p6
                              try clear c7
                              try clear c7b0
                              try clear c7b1
                              try clear c9
                              try clear c9b0
                              try clear c9b1
                              try clear c10
                              try clear c10b0
                              try clear c10b1
                              try clear c12
                              try clear c12b0
                              try clear c12b1
                              try clear c13
                              try clear c13b0
                              try clear c13b1
                              try clear c15
                              try clear c15b0
                              try clear c15b1
                              try clear c16
                              try clear c16b0
                              try clear c16b1
                              try clear c18
                              try clear c18b0
                              try clear c18b1
                              try clear c19
                              try clear c19b0
                              try clear c19b1
                              try clear c22
                              try clear c22b0
                              try clear c23
                              try clear c23b0
                              try clear c23b1
                              try clear c24
                              try clear c24b0
                              try clear c26
                              try clear c26b0
                              try clear c27
                              try clear c27b0
                              try clear c28
                              try clear c28b0
                              try clear c29
                              try clear c29b0
                              try clear c30
                              try clear c30b0
                              try clear c31
                              try clear c31b0
                              obtain ⟨kq, x79_20, rfl, HA, HJ20, HB⟩ := hcut
                              cases kq with
                              | zero => exact absurd HA.out (by simp [date_Read.j0])
                              | succ kj20 =>
                                have H := HA.out
                                clear HA
                                simp only [date_Read.j0] at H
                                by_cases c32 : x79_20 = true
                                · subst c32
                                  have H1 : (some (0, 14)) = some (r1, r2) := by rw [if_pos rfl] at H; exact H
                                  clear H
                                  have H := H1
                                  clear H1
                                  simp only [Option.some.injEq, Prod.mk.injEq] at H
                                  obtain ⟨rfl, rfl⟩ := H
                                  go_wp2
                                  repeat (go_quiet (fail); try go_wp2)
                                  go_ret2
                                  exact ⟨by first | rfl | (generalize ByteArray.toList _ = l_; cases l_ <;> rfl) | (simp [errW_none, errW_some] <;> rfl) | (simp [*, errW_none, errW_some] <;> rfl), by repeat (first | (with_reducible first | exact HB.out | apply below_alloc | apply pw_below_drewN | apply below_drew1) | exact HB.out)⟩
                                · replace c32 := Bool.eq_false_iff.mpr c32
                                  subst c32
                                  have H1 : ((date_before.f t204).bind fun t210 => (date_Read.l0 kj20 a0 t203 t204 t206 t207 t208 (wrap64 ((wrap64 (t210 + t205)) - 1)) 1)) = some (r1, r2) := by rw [if_neg (show ¬ (false = true) by decide)] at H; exact H
                                  clear H
                                  have H := H1
                                  clear H1
                                  replace H := Option.bind_eq_some_iff.mp H
                                  obtain ⟨t210, A330, H⟩ := H
                                  replace H : (date_Read.l0 kj20 a0 t203 t204 t206 t207 t208 (wrap64 ((wrap64 (t210 + t205)) - 1)) 1) = some (r1, r2) := H
                                  have A33 := Aside0.mk A330
                                  clear A330
                                  have H' := Aside0.mk H
                                  clear H
                                  go_wp2_with (first | (go_at_call 78; (with_reducible refine (date_before.calls t204 t210 _ A33.out).mono ?_); rintro e w' ⟨rfl, ⟨nd, rfl⟩⟩; (try first | exact ⟨rfl, _, World.drewN_drewN _ _ _⟩ | exact ⟨rfl, _, Eq.trans (World.drewN_drewN _ _ _) (congrArg (World.drewN _) (Nat.add_assoc _ _ _))⟩)))
                                  repeat (go_quiet (first | (go_at_call 78; (with_reducible refine (date_before.calls t204 t210 _ A33.out).mono ?_); rintro e w' ⟨rfl, ⟨nd, rfl⟩⟩; (try first | exact ⟨rfl, _, World.drewN_drewN _ _ _⟩ | exact ⟨rfl, _, Eq.trans (World.drewN_drewN _ _ _) (congrArg (World.drewN _) (Nat.add_assoc _ _ _))⟩))); try go_wp2_with (first | (go_at_call 78; (with_reducible refine (date_before.calls t204 t210 _ A33.out).mono ?_); rintro e w' ⟨rfl, ⟨nd, rfl⟩⟩; (try first | exact ⟨rfl, _, World.drewN_drewN _ _ _⟩ | exact ⟨rfl, _, Eq.trans (World.drewN_drewN _ _ _) (congrArg (World.drewN _) (Nat.add_assoc _ _ _))⟩))))
                                  go_loopg [10, 11] kj20 (fun kq v10 v11 w' => ∃ (x10_2 : Int) (x11_2 : Int), v10 = .int .i64 x10_2 ∧ v11 = .int .i64 x11_2 ∧ Aside0 (date_Read.l0 kq a0 t203 t204 t206 t207 t208 x10_2 x11_2 = some (r1, r2)) ∧ Aside0 (kq ≤ kj20) ∧ Aside0 (Below w.heap.size w w'))
                                  case atStart => exact ⟨(wrap64 ((wrap64 (t210 + t205)) - 1)), (1), (by first | rfl | (simp; done) | (simp [*]; done)), (by first | rfl | (simp; done) | (simp [*]; done)), H', ⟨Nat.le_refl _⟩, ⟨by repeat (first | (with_reducible first | exact HB.out | apply below_alloc | apply pw_below_drewN | apply below_drew1) | exact HB.out)⟩⟩
                                  case round =>
                                    clear H'
                                    try clear c1
                                    try clear c2
                                    try clear c2b0
                                    try clear c2b1
                                    try clear p2
                                    try clear c3
                                    try clear c3b0
                                    try clear c3b1
                                    try clear c4
                                    try clear c4b0
                                    try clear c4b1
                                    try clear c6
                                    try clear c6b0
                                    try clear c6b1
                                    try clear p6
                                    try clear c7
                                    try clear c7b0
                                    try clear c7b1
                                    try clear c9
                                    try clear c9b0
                                    try clear c9b1
                                    try clear c10
                                    try clear c10b0
                                    try clear c10b1
                                    try clear c12
                                    try clear c12b0
                                    try clear c12b1
                                    try clear c13
                                    try clear c13b0
                                    try clear c13b1
                                    try clear c15
                                    try clear c15b0
                                    try clear c15b1
                                    try clear c16
                                    try clear c16b0
                                    try clear c16b1
                                    try clear c18
                                    try clear c18b0
                                    try clear c18b1
                                    try clear c19
                                    try clear c19b0
                                    try clear c19b1
                                    try clear c22
                                    try clear c22b0
                                    try clear c23
                                    try clear c23b0
                                    try clear c23b1
                                    try clear c24
                                    try clear c24b0
                                    try clear c26
                                    try clear c26b0
                                    try clear c27
                                    try clear c27b0
                                    try clear c28
                                    try clear c28b0
                                    try clear c29
                                    try clear c29b0
                                    try clear c30
                                    try clear c30b0
                                    try clear c31
                                    try clear c31b0
                                    try clear c32
                                    try clear p2
                                    try clear p6
                                    obtain ⟨x10_2, x11_2, rfl, rfl, HA, HK2, HB⟩ := hrel
                                    cases gk with
                                    | zero => exact absurd HA.out (by simp [date_Read.l0])
                                    | succ k2 =>
                                      have H := HA.out
                                      clear HA
                                      simp only [date_Read.l0] at H
                                      by_cases c34 : x11_2 ≤ (wrap64 (Int.tdiv t203 3))
                                      · rw [if_pos c34] at H
                                        have c34b0 : decide (x11_2 ≤ (wrap64 (Int.tdiv t203 3))) = true := decide_eq_true c34
                                        clear c34
                                        replace H := Option.bind_eq_some_iff.mp H
                                        obtain ⟨t211, A350, H⟩ := H
                                        replace H : (date_Read.l0 k2 a0 t203 t204 t206 t207 t208 (wrap64 (x10_2 + t211)) (wrap64 (x11_2 + 1))) = some (r1, r2) := H
                                        have A35 := Aside0.mk A350
                                        clear A350
                                        have H' := Aside0.mk H
                                        clear H
                                        go_wp2_with (first | (go_at_call 77; (with_reducible refine (date_Days.calls k2 t204 x11_2 t211 _ A35.out).mono ?_); rintro e w' ⟨rfl, ⟨nd, rfl⟩⟩; (try first | exact ⟨rfl, _, World.drewN_drewN _ _ _⟩ | exact ⟨rfl, _, Eq.trans (World.drewN_drewN _ _ _) (congrArg (World.drewN _) (Nat.add_assoc _ _ _))⟩)))
                                        repeat (go_quiet (first | (go_at_call 77; (with_reducible refine (date_Days.calls k2 t204 x11_2 t211 _ A35.out).mono ?_); rintro e w' ⟨rfl, ⟨nd, rfl⟩⟩; (try first | exact ⟨rfl, _, World.drewN_drewN _ _ _⟩ | exact ⟨rfl, _, Eq.trans (World.drewN_drewN _ _ _) (congrArg (World.drewN _) (Nat.add_assoc _ _ _))⟩))); try go_wp2_with (first | (go_at_call 77; (with_reducible refine (date_Days.calls k2 t204 x11_2 t211 _ A35.out).mono ?_); rintro e w' ⟨rfl, ⟨nd, rfl⟩⟩; (try first | exact ⟨rfl, _, World.drewN_drewN _ _ _⟩ | exact ⟨rfl, _, Eq.trans (World.drewN_drewN _ _ _) (congrArg (World.drewN _) (Nat.add_assoc _ _ _))⟩))))
                                        go_roundg k2
                                        case measure => have := HJ20.out; have := HK2.out; omega
                                        case rel => exact ⟨(wrap64 (x10_2 + t211)), (wrap64 (x11_2 + 1)), (by first | rfl | (simp; done) | (simp [*]; done)), (by first | rfl | (simp; done) | (simp [*]; done)), H', ⟨by have := HJ20.out; have := HK2.out; omega⟩, ⟨by repeat (first | (with_reducible first | exact HB.out | apply below_alloc | apply pw_below_drewN | apply below_drew1) | exact HB.out)⟩⟩
                                      · rw [if_neg c34] at H
                                        have c34b0 : decide (x11_2 ≤ (wrap64 (Int.tdiv t203 3))) = false := decide_eq_false c34
                                        clear c34
                                        replace H := Option.bind_eq_some_iff.mp H
                                        obtain ⟨⟨t212, t213⟩, A360, H⟩ := H
                                        replace H : (if t212.toList = a0.toList then (some (wrap64 ((wrap64 ((wrap64 ((wrap64 (x10_2 * 86400)) + (wrap64 (t206 * 3600)))) + (wrap64 (t207 * 60)))) + t208), 0)) else (some (0, 14))) = some (r1, r2) := H
                                        have A36 := Aside0.mk A360
                                        clear A360
                                        by_cases c37 : t212.toList = a0.toList
                                        · rw [if_pos c37] at H
                                          have c37b0 : (t212.toList == a0.toList) = true := beq_iff_eq.mpr c37
                                          have c37b1 : (t212.toList != a0.toList) = false := bne_eq_false_iff_eq.mpr c37
                                          clear c37
                                          simp only [Option.some.injEq, Prod.mk.injEq] at H
                                          obtain ⟨rfl, rfl⟩ := H
                                          go_wp2_with (first | (go_at_call 79; (with_reducible refine (date_Show.calls k2 (wrap64 ((wrap64 ((wrap64 ((wrap64 (x10_2 * 86400)) + (wrap64 (t206 * 3600)))) + (wrap64 (t207 * 60)))) + t208)) t212 t213 _ A36.out).mono ?_); rintro e w38 ⟨rfl, hb⟩; have n0_ := Aside0.mk (below_step (by repeat (first | (with_reducible first | exact HB.out | apply below_alloc | apply pw_below_drewN | apply below_drew1) | exact HB.out)) hb); clear HB; have HB := n0_; clear n0_; (try clear hb); (try clear hb2); (try clear hk); (try clear hi)))
                                          repeat (go_quiet (first | (go_at_call 79; (with_reducible refine (date_Show.calls k2 (wrap64 ((wrap64 ((wrap64 ((wrap64 (x10_2 * 86400)) + (wrap64 (t206 * 3600)))) + (wrap64 (t207 * 60)))) + t208)) t212 t213 _ A36.out).mono ?_); rintro e w38 ⟨rfl, hb⟩; have n0_ := Aside0.mk (below_step (by repeat (first | (with_reducible first | exact HB.out | apply below_alloc | apply pw_below_drewN | apply below_drew1) | exact HB.out)) hb); clear HB; have HB := n0_; clear n0_; (try clear hb); (try clear hb2); (try clear hk); (try clear hi))); try go_wp2_with (first | (go_at_call 79; (with_reducible refine (date_Show.calls k2 (wrap64 ((wrap64 ((wrap64 ((wrap64 (x10_2 * 86400)) + (wrap64 (t206 * 3600)))) + (wrap64 (t207 * 60)))) + t208)) t212 t213 _ A36.out).mono ?_); rintro e w38 ⟨rfl, hb⟩; have n0_ := Aside0.mk (below_step (by repeat (first | (with_reducible first | exact HB.out | apply below_alloc | apply pw_below_drewN | apply below_drew1) | exact HB.out)) hb); clear HB; have HB := n0_; clear n0_; (try clear hb); (try clear hb2); (try clear hk); (try clear hi))))
                                          go_ret2
                                          exact ⟨by first | rfl | (generalize ByteArray.toList _ = l_; cases l_ <;> rfl) | (simp [errW_none, errW_some] <;> rfl) | (simp [*, errW_none, errW_some] <;> rfl), by repeat (first | (with_reducible first | exact HB.out | apply below_alloc | apply pw_below_drewN | apply below_drew1) | exact HB.out)⟩
                                        · rw [if_neg c37] at H
                                          have c37b0 : (t212.toList == a0.toList) = false := beq_eq_false_iff_ne.mpr c37
                                          have c37b1 : (t212.toList != a0.toList) = true := bne_iff_ne.mpr c37
                                          simp only [Option.some.injEq, Prod.mk.injEq] at H
                                          obtain ⟨rfl, rfl⟩ := H
                                          go_wp2_with (first | (go_at_call 79; (with_reducible refine (date_Show.calls k2 (wrap64 ((wrap64 ((wrap64 ((wrap64 (x10_2 * 86400)) + (wrap64 (t206 * 3600)))) + (wrap64 (t207 * 60)))) + t208)) t212 t213 _ A36.out).mono ?_); rintro e w39 ⟨rfl, hb⟩; have n0_ := Aside0.mk (below_step (by repeat (first | (with_reducible first | exact HB.out | apply below_alloc | apply pw_below_drewN | apply below_drew1) | exact HB.out)) hb); clear HB; have HB := n0_; clear n0_; (try clear hb); (try clear hb2); (try clear hk); (try clear hi)))
                                          repeat (go_quiet (first | (go_at_call 79; (with_reducible refine (date_Show.calls k2 (wrap64 ((wrap64 ((wrap64 ((wrap64 (x10_2 * 86400)) + (wrap64 (t206 * 3600)))) + (wrap64 (t207 * 60)))) + t208)) t212 t213 _ A36.out).mono ?_); rintro e w39 ⟨rfl, hb⟩; have n0_ := Aside0.mk (below_step (by repeat (first | (with_reducible first | exact HB.out | apply below_alloc | apply pw_below_drewN | apply below_drew1) | exact HB.out)) hb); clear HB; have HB := n0_; clear n0_; (try clear hb); (try clear hb2); (try clear hk); (try clear hi))); try go_wp2_with (first | (go_at_call 79; (with_reducible refine (date_Show.calls k2 (wrap64 ((wrap64 ((wrap64 ((wrap64 (x10_2 * 86400)) + (wrap64 (t206 * 3600)))) + (wrap64 (t207 * 60)))) + t208)) t212 t213 _ A36.out).mono ?_); rintro e w39 ⟨rfl, hb⟩; have n0_ := Aside0.mk (below_step (by repeat (first | (with_reducible first | exact HB.out | apply below_alloc | apply pw_below_drewN | apply below_drew1) | exact HB.out)) hb); clear HB; have HB := n0_; clear n0_; (try clear hb); (try clear hb2); (try clear hk); (try clear hi))))
                                          go_ret2
                                          exact ⟨by first | rfl | (generalize ByteArray.toList _ = l_; cases l_ <;> rfl) | (simp [errW_none, errW_some] <;> rfl) | (simp [*, errW_none, errW_some] <;> rfl), by repeat (first | (with_reducible first | exact HB.out | apply below_alloc | apply pw_below_drewN | apply below_drew1) | exact HB.out)⟩
                          · rw [if_neg c19] at H
                            exact absurd H (by simp)
                        · rw [if_neg c18] at H
                          exact absurd H (by simp)
                      · rw [if_neg c16] at H
                        exact absurd H (by simp)
                    · rw [if_neg c15] at H
                      exact absurd H (by simp)
                  · rw [if_neg c13] at H
                    exact absurd H (by simp)
                · rw [if_neg c12] at H
                  exact absurd H (by simp)
              · rw [if_neg c10] at H
                exact absurd H (by simp)
            · rw [if_neg c9] at H
              exact absurd H (by simp)
          · rw [if_neg c7] at H
            exact absurd H (by simp)
        · rw [if_neg c6] at H
          exact absurd H (by simp)
      · rw [if_neg c4] at H
        exact absurd H (by simp)
    · rw [if_neg c3] at H
      exact absurd H (by simp)
  · rw [if_neg c2] at H
    have c2b0 : ((a0.size : Int) == 29) = false := beq_eq_false_iff_ne.mpr c2
    have c2b1 : ((a0.size : Int) != 29) = true := bne_iff_ne.mpr c2
    simp only [Option.some.injEq, Prod.mk.injEq] at H
    obtain ⟨rfl, rfl⟩ := H
    go_enter Tryd.func66, Tryd.ntmps66
    go_wp2
    repeat (go_quiet (fail); try go_wp2)
    go_ret2
    exact ⟨by first | rfl | (generalize ByteArray.toList _ = l_; cases l_ <;> rfl) | (simp [errW_none, errW_some] <;> rfl) | (simp [*, errW_none, errW_some] <;> rfl), by repeat (first | (with_reducible first | exact HB.out | apply below_alloc | apply pw_below_drewN | apply below_drew1) | exact HB.out)⟩

/-! ### pass_dated: function 50 -/
def pass_dated.f (k : Nat) (l0 : List (S49)) (a1 : ByteArray) : Option (Int × Bool) := (field_List_Get.f k l0 a1).bind fun bt214 => ((date_Read.f k bt214.1).bind fun bt216 => (some (bt216.1, (bt216.2 == 0))))
theorem pass_dated.mono : ∀ a0 a1 k, LeO (pass_dated.f k a0 a1) (pass_dated.f (k + 1) a0 a1) := by
  intro a0 a1 k
  unfold pass_dated.f
  repeat' first
      | (with_reducible exact date_Read.mono _ _)
      | (with_reducible exact field_List_Get.mono _ _ _)
      | (with_reducible exact LeO.refl _)
      | (with_reducible exact LeO.none _)
      | (with_reducible refine LeO.ite ?_ ?_)
      | (with_reducible refine LeO.bind ?_ (fun _ => ?_))
      | exact date_Read.mono _ _
      | exact field_List_Get.mono _ _ _
      | exact LeO.none _
      | refine LeO.ite ?_ ?_
      | refine LeO.bind ?_ (fun _ => ?_)
set_option maxHeartbeats 8000000 in
set_option maxRecDepth 100000 in
theorem pass_dated.calls (k : Nat) (A0 : Option Addr) (c0 : Nat) (l0 : List (S49)) (a1 : ByteArray) (r1 : Int) (r2 : Bool) (w : World) (hr0 : Kd.C k49 w A0 l0.length l0) (hc0 : l0.length ≤ c0) (hrW : WF w) (h : pass_dated.f k l0 a1 = some (r1, r2)) :
    Calls Tryd.prog 50 #[.slice A0 l0.length c0, .string a1] w fun e w' => e = .returned (.tuple #[.int .i64 r1, .bool r2]) ∧ Below w.heap.size w w' := by
  have HRW := Aside0.mk hrW
  clear hrW
  have HR0 := Aside0.mk hr0
  have HC0 := Aside0.mk hc0
  clear hr0 hc0
  have HB := Aside0.mk (Below.refl w.heap.size w)
  have H : ((field_List_Get.f k l0 a1).bind fun bt214 => ((date_Read.f k bt214.1).bind fun bt216 => (some (bt216.1, (bt216.2 == 0))))) = some (r1, r2) := h
  clear h
  replace H := Option.bind_eq_some_iff.mp H
  obtain ⟨⟨t214, t215⟩, A30, H⟩ := H
  replace H : ((date_Read.f k t214).bind fun bt216 => (some (bt216.1, (bt216.2 == 0)))) = some (r1, r2) := H
  have A3 := Aside0.mk A30
  clear A30
  replace H := Option.bind_eq_some_iff.mp H
  obtain ⟨⟨t216, t217⟩, A40, H⟩ := H
  replace H : (some (t216, (t217 == 0))) = some (r1, r2) := H
  have A4 := Aside0.mk A40
  clear A40
  simp only [Option.some.injEq, Prod.mk.injEq] at H
  obtain ⟨rfl, rfl⟩ := H
  go_enter Tryd.func50, Tryd.ntmps50
  go_wp2_with (first | ((with_reducible refine gate_callee (f := 14) rfl ?_); refine goesL_ (some 13) rfl rfl Tryd.func14 (by kernel_rfl) rfl #[.slice A0 l0.length c0, .string a1] rfl (by (try simp only [List.map_toArray, List.map_cons, List.map_nil]); first | done | rfl | (simp only [List.length_drop, List.length_take]; rfl)) ?_; (with_reducible refine (field_List_Get.calls k _ _ l0 a1 t214 t215 _ ?side1 ?side2 A3.out).mono ?_); (case side1 => repeat (first | exact HR0.out | (with_reducible refine Kd.C_alloc ?_ _) | (with_reducible refine Kd.C_drewN ?_ _) | (with_reducible refine Kd.C_drew ?_))); (case side2 => exact HC0.out); rintro e w5 ⟨rfl, hb⟩; refine ⟨_, rfl, ?_⟩; have n0_ := Aside0.mk (below_step (by repeat (first | (with_reducible first | exact HB.out | apply below_alloc | apply pw_below_drewN | apply below_drew1) | exact HB.out)) hb); clear HB; have HB := n0_; clear n0_; (try clear hb); (try clear hb2); (try clear hk); (try clear hi)) | ((with_reducible refine gate_callee (f := 66) rfl ?_); refine goesL_ (some 18) rfl rfl Tryd.func66 (by kernel_rfl) rfl #[.string t214] rfl (by (try simp only [List.map_toArray, List.map_cons, List.map_nil]); first | done | rfl | (simp only [List.length_drop, List.length_take]; rfl)) ?_; (with_reducible refine (date_Read.calls k t214 t216 t217 _ ?side1 A4.out).mono ?_); (case side1 => repeat (first | exact (WF.below HRW.out HB.out) | (with_reducible refine Kd.C_alloc ?_ _) | (with_reducible refine Kd.C_drewN ?_ _) | (with_reducible refine Kd.C_drew ?_))); rintro e w6 ⟨rfl, hb⟩; refine ⟨_, rfl, ?_⟩; have n0_ := Aside0.mk (below_step (by repeat (first | (with_reducible first | exact HB.out | apply below_alloc | apply pw_below_drewN | apply below_drew1) | exact HB.out)) hb); clear HB; have HB := n0_; clear n0_; (try clear hb); (try clear hb2); (try clear hk); (try clear hi)))
  go_ret2
  exact ⟨by first | rfl | (generalize ByteArray.toList _ = l_; cases l_ <;> rfl) | (simp [errW_none, errW_some] <;> rfl) | (simp [*, errW_none, errW_some] <;> rfl), by repeat (first | (with_reducible first | exact HB.out | apply below_alloc | apply pw_below_drewN | apply below_drew1) | exact HB.out)⟩

/-! ### pass_Asking: function 26 -/
def pass_Asking.j0 : Nat → List (S49) → List (S49) → Option ((List (S49)))
  | 0, _, _ => none
  | k + 1, x1, x5 => (pass_dated.f k x1 (⟨#[76, 97, 115, 116, 45, 77, 111, 100, 105, 102, 105, 101, 100]⟩ : ByteArray)).bind fun bt231 => (if bt231.2 = true then ((field_List_Get.f k x1 (⟨#[76, 97, 115, 116, 45, 77, 111, 100, 105, 102, 105, 101, 100]⟩ : ByteArray)).bind fun bt233 => (if x5.length < 4398046511104 then (some (x5 ++ [(⟨(⟨#[73, 102, 45, 77, 111, 100, 105, 102, 105, 101, 100, 45, 83, 105, 110, 99, 101]⟩ : ByteArray), bt233.1⟩ : S49)])) else (none))) else (some x5))
def pass_Asking.f (k : Nat) (l0 : List (S49)) (l1 : List (S49)) : Option ((List (S49))) := (pass_Onward.f k l0).bind fun t218 => ((field_List_Without.f k t218 (([(⟨#[73, 102, 45, 78, 111, 110, 101, 45, 77, 97, 116, 99, 104]⟩ : ByteArray), (⟨#[73, 102, 45, 77, 111, 100, 105, 102, 105, 101, 100, 45, 83, 105, 110, 99, 101]⟩ : ByteArray), (⟨#[73, 102, 45, 77, 97, 116, 99, 104]⟩ : ByteArray), (⟨#[73, 102, 45, 85, 110, 109, 111, 100, 105, 102, 105, 101, 100, 45, 83, 105, 110, 99, 101]⟩ : ByteArray), (⟨#[73, 102, 45, 82, 97, 110, 103, 101]⟩ : ByteArray), (⟨#[82, 97, 110, 103, 101]⟩ : ByteArray)] : List ByteArray))).bind fun t224 => ((pass_tag.f k l1).bind fun t227 => (if t227.toList = ([] : List UInt8) then (pass_Asking.j0 k l1 t224) else (if t224.length < 4398046511104 then (pass_Asking.j0 k l1 (t224 ++ [(⟨(⟨#[73, 102, 45, 78, 111, 110, 101, 45, 77, 97, 116, 99, 104]⟩ : ByteArray), t227⟩ : S49)])) else (none)))))
theorem pass_Asking.mono_l : ∀ k, (∀ y0 y1, LeO (pass_Asking.j0 k y0 y1) (pass_Asking.j0 (k + 1) y0 y1))
  | 0 => fun _ _ r h => by simp [pass_Asking.j0] at h
  | k + 1 => by
    have ih0 := pass_Asking.mono_l k
    · intro y0 y1
      unfold pass_Asking.j0
      repeat' first
      | (with_reducible exact ih0 _ _)
      | (with_reducible exact field_List_Get.mono _ _ _)
      | (with_reducible exact field_List_Without.mono _ _ _)
      | (with_reducible exact pass_Onward.mono _ _)
      | (with_reducible exact pass_dated.mono _ _ _)
      | (with_reducible exact pass_tag.mono _ _)
      | (with_reducible exact LeO.refl _)
      | (with_reducible exact LeO.none _)
      | (with_reducible refine LeO.ite ?_ ?_)
      | (with_reducible refine LeO.bind ?_ (fun _ => ?_))
      | exact ih0 _ _
      | exact field_List_Get.mono _ _ _
      | exact field_List_Without.mono _ _ _
      | exact pass_Onward.mono _ _
      | exact pass_dated.mono _ _ _
      | exact pass_tag.mono _ _
      | exact LeO.none _
      | refine LeO.ite ?_ ?_
      | refine LeO.bind ?_ (fun _ => ?_)
theorem pass_Asking.mono : ∀ a0 a1 k, LeO (pass_Asking.f k a0 a1) (pass_Asking.f (k + 1) a0 a1) := by
  intro a0 a1 k
  have ih0 := pass_Asking.mono_l k
  unfold pass_Asking.f
  repeat' first
      | (with_reducible exact ih0 _ _)
      | (with_reducible exact field_List_Get.mono _ _ _)
      | (with_reducible exact field_List_Without.mono _ _ _)
      | (with_reducible exact pass_Onward.mono _ _)
      | (with_reducible exact pass_dated.mono _ _ _)
      | (with_reducible exact pass_tag.mono _ _)
      | (with_reducible exact LeO.refl _)
      | (with_reducible exact LeO.none _)
      | (with_reducible refine LeO.ite ?_ ?_)
      | (with_reducible refine LeO.bind ?_ (fun _ => ?_))
      | exact ih0 _ _
      | exact field_List_Get.mono _ _ _
      | exact field_List_Without.mono _ _ _
      | exact pass_Onward.mono _ _
      | exact pass_dated.mono _ _ _
      | exact pass_tag.mono _ _
      | exact LeO.none _
      | refine LeO.ite ?_ ?_
      | refine LeO.bind ?_ (fun _ => ?_)
set_option maxHeartbeats 8000000 in
set_option maxRecDepth 100000 in
theorem pass_Asking.calls (k : Nat) (A0 : Option Addr) (c0 : Nat) (l0 : List (S49)) (A1 : Option Addr) (c1 : Nat) (l1 : List (S49)) (r : List (S49)) (w : World) (hr0 : Kd.C k49 w A0 l0.length l0) (hc0 : l0.length ≤ c0) (hr1 : Kd.C k49 w A1 l1.length l1) (hc1 : l1.length ≤ c1) (hrW : WF w) (h : pass_Asking.f k l0 l1 = some r) :
    Calls Tryd.prog 26 #[.slice A0 l0.length c0, .slice A1 l1.length c1] w fun e w' => ∃ v0_ : Value, e = .returned (v0_) ∧ Kd.R k49 49 w' w.heap.size (fun _ => True) v0_ r ∧ Below w.heap.size w w' := by
  have hu49 := Tryd.underlying49
  have HRW := Aside0.mk hrW
  clear hrW
  have HR0 := Aside0.mk hr0
  have HC0 := Aside0.mk hc0
  clear hr0 hc0
  have HR1 := Aside0.mk hr1
  have HC1 := Aside0.mk hc1
  clear hr1 hc1
  have HB := Aside0.mk (Below.refl w.heap.size w)
  have H : ((pass_Onward.f k l0).bind fun t218 => ((field_List_Without.f k t218 (([(⟨#[73, 102, 45, 78, 111, 110, 101, 45, 77, 97, 116, 99, 104]⟩ : ByteArray), (⟨#[73, 102, 45, 77, 111, 100, 105, 102, 105, 101, 100, 45, 83, 105, 110, 99, 101]⟩ : ByteArray), (⟨#[73, 102, 45, 77, 97, 116, 99, 104]⟩ : ByteArray), (⟨#[73, 102, 45, 85, 110, 109, 111, 100, 105, 102, 105, 101, 100, 45, 83, 105, 110, 99, 101]⟩ : ByteArray), (⟨#[73, 102, 45, 82, 97, 110, 103, 101]⟩ : ByteArray), (⟨#[82, 97, 110, 103, 101]⟩ : ByteArray)] : List ByteArray))).bind fun t224 => ((pass_tag.f k l1).bind fun t227 => (if t227.toList = ([] : List UInt8) then (pass_Asking.j0 k l1 t224) else (if t224.length < 4398046511104 then (pass_Asking.j0 k l1 (t224 ++ [(⟨(⟨#[73, 102, 45, 78, 111, 110, 101, 45, 77, 97, 116, 99, 104]⟩ : ByteArray), t227⟩ : S49)])) else (none)))))) = some r := h
  clear h
  replace H := Option.bind_eq_some_iff.mp H
  obtain ⟨t218, A30, H⟩ := H
  replace H : ((field_List_Without.f k t218 (([(⟨#[73, 102, 45, 78, 111, 110, 101, 45, 77, 97, 116, 99, 104]⟩ : ByteArray), (⟨#[73, 102, 45, 77, 111, 100, 105, 102, 105, 101, 100, 45, 83, 105, 110, 99, 101]⟩ : ByteArray), (⟨#[73, 102, 45, 77, 97, 116, 99, 104]⟩ : ByteArray), (⟨#[73, 102, 45, 85, 110, 109, 111, 100, 105, 102, 105, 101, 100, 45, 83, 105, 110, 99, 101]⟩ : ByteArray), (⟨#[73, 102, 45, 82, 97, 110, 103, 101]⟩ : ByteArray), (⟨#[82, 97, 110, 103, 101]⟩ : ByteArray)] : List ByteArray))).bind fun t224 => ((pass_tag.f k l1).bind fun t227 => (if t227.toList = ([] : List UInt8) then (pass_Asking.j0 k l1 t224) else (if t224.length < 4398046511104 then (pass_Asking.j0 k l1 (t224 ++ [(⟨(⟨#[73, 102, 45, 78, 111, 110, 101, 45, 77, 97, 116, 99, 104]⟩ : ByteArray), t227⟩ : S49)])) else (none))))) = some r := H
  have A3 := Aside0.mk A30
  clear A30
  obtain ⟨y221, hy221⟩ : ∃ y_ : List ByteArray, y_ = (([(⟨#[73, 102, 45, 78, 111, 110, 101, 45, 77, 97, 116, 99, 104]⟩ : ByteArray), (⟨#[73, 102, 45, 77, 111, 100, 105, 102, 105, 101, 100, 45, 83, 105, 110, 99, 101]⟩ : ByteArray), (⟨#[73, 102, 45, 77, 97, 116, 99, 104]⟩ : ByteArray), (⟨#[73, 102, 45, 85, 110, 109, 111, 100, 105, 102, 105, 101, 100, 45, 83, 105, 110, 99, 101]⟩ : ByteArray), (⟨#[73, 102, 45, 82, 97, 110, 103, 101]⟩ : ByteArray), (⟨#[82, 97, 110, 103, 101]⟩ : ByteArray)] : List ByteArray)) := ⟨_, rfl⟩
  replace H : ((field_List_Without.f k t218 y221).bind fun t224 => ((pass_tag.f k l1).bind fun t227 => (if t227.toList = ([] : List UInt8) then (pass_Asking.j0 k l1 t224) else (if t224.length < 4398046511104 then (pass_Asking.j0 k l1 (t224 ++ [(⟨(⟨#[73, 102, 45, 78, 111, 110, 101, 45, 77, 97, 116, 99, 104]⟩ : ByteArray), t227⟩ : S49)])) else (none))))) = some r := by first | (rw [hy221]; with_reducible exact H) | (have H2_ := (Option.bind_some _ _).symm.trans H; rw [hy221]; with_reducible exact H2_) | (have H2_ := (Option.bind_some _ _).symm.trans H; with_reducible exact H2_) | with_reducible exact H | (rw [hy221]; exact H) | exact H
  have Ny221 := Aside0.mk hy221
  clear hy221
  replace H := Option.bind_eq_some_iff.mp H
  obtain ⟨t224, A40, H⟩ := H
  replace H : ((pass_tag.f k l1).bind fun t227 => (if t227.toList = ([] : List UInt8) then (pass_Asking.j0 k l1 t224) else (if t224.length < 4398046511104 then (pass_Asking.j0 k l1 (t224 ++ [(⟨(⟨#[73, 102, 45, 78, 111, 110, 101, 45, 77, 97, 116, 99, 104]⟩ : ByteArray), t227⟩ : S49)])) else (none)))) = some r := H
  have A4 := Aside0.mk A40
  clear A40
  replace H := Option.bind_eq_some_iff.mp H
  obtain ⟨t227, A50, H⟩ := H
  replace H : (if t227.toList = ([] : List UInt8) then (pass_Asking.j0 k l1 t224) else (if t224.length < 4398046511104 then (pass_Asking.j0 k l1 (t224 ++ [(⟨(⟨#[73, 102, 45, 78, 111, 110, 101, 45, 77, 97, 116, 99, 104]⟩ : ByteArray), t227⟩ : S49)])) else (none))) = some r := H
  have A5 := Aside0.mk A50
  clear A50
  have HC6 := Aside0.mk H
  clear H
  go_enter Tryd.func26, Tryd.ntmps26
  go_upto_if 18 with (first | ((with_reducible refine gate_callee (f := 18) rfl ?_); refine goesL_ (some 12) rfl rfl Tryd.func18 (by kernel_rfl) rfl #[.slice A0 l0.length c0] rfl (by (try simp only [List.map_toArray, List.map_cons, List.map_nil]); first | done | rfl | (simp only [List.length_drop, List.length_take]; rfl)) ?_; (with_reducible refine (pass_Onward.calls k _ _ l0 t218 _ ?side1 ?side2 A3.out).mono ?_); (case side1 => repeat (first | exact HR0.out | (with_reducible refine Kd.C_alloc ?_ _) | (with_reducible refine Kd.C_drewN ?_ _) | (with_reducible refine Kd.C_drew ?_))); (case side2 => exact HC0.out); rintro e w7 ⟨v219, rfl, ho0, hb⟩; refine ⟨_, rfl, ?_⟩; have n0_ := Aside0.mk (Kd.R_lower ho0 (below_size (by repeat (first | (with_reducible first | exact HB.out | apply below_alloc | apply pw_below_drewN | apply below_drew1) | exact HB.out)))); have n1_ := Aside0.mk (below_step (by repeat (first | (with_reducible first | exact HB.out | apply below_alloc | apply pw_below_drewN | apply below_drew1) | exact HB.out)) hb); clear HB; have HO220 := n0_; have HB := n1_; clear n0_ n1_; (try clear hb); (try clear hb2); (try clear hk); (try clear hi); (try clear ho0)) | ((with_reducible refine gate_dst (N := 13) rfl ?_); refine Kd.R_lit Kd.string _ 9 ?hg (N := 13) ?hd (xs := ([(⟨#[73, 102, 45, 78, 111, 110, 101, 45, 77, 97, 116, 99, 104]⟩ : ByteArray), (⟨#[73, 102, 45, 77, 111, 100, 105, 102, 105, 101, 100, 45, 83, 105, 110, 99, 101]⟩ : ByteArray), (⟨#[73, 102, 45, 77, 97, 116, 99, 104]⟩ : ByteArray), (⟨#[73, 102, 45, 85, 110, 109, 111, 100, 105, 102, 105, 101, 100, 45, 83, 105, 110, 99, 101]⟩ : ByteArray), (⟨#[73, 102, 45, 82, 97, 110, 103, 101]⟩ : ByteArray), (⟨#[82, 97, 110, 103, 101]⟩ : ByteArray)] : List ByteArray)) (inner := [.string (⟨#[73, 102, 45, 78, 111, 110, 101, 45, 77, 97, 116, 99, 104]⟩ : ByteArray), .string (⟨#[73, 102, 45, 77, 111, 100, 105, 102, 105, 101, 100, 45, 83, 105, 110, 99, 101]⟩ : ByteArray), .string (⟨#[73, 102, 45, 77, 97, 116, 99, 104]⟩ : ByteArray), .string (⟨#[73, 102, 45, 85, 110, 109, 111, 100, 105, 102, 105, 101, 100, 45, 83, 105, 110, 99, 101]⟩ : ByteArray), .string (⟨#[73, 102, 45, 82, 97, 110, 103, 101]⟩ : ByteArray), .string (⟨#[82, 97, 110, 103, 101]⟩ : ByteArray)]) (ok := fun _ => True) (okp := fun _ => True) ?hr ?hp (fun _ hk => hk) trivial (Below.refl _ _) (Nat.le_refl _) (by simp) ?_; (case hd => rfl); (case hg => rfl); (case hr => first | (go_simp; done) | (go_simp; rfl)); (case hp => exact (Reps.one (show Kd.M Kd.string _ _ _ (⟨#[73, 102, 45, 78, 111, 110, 101, 45, 77, 97, 116, 99, 104]⟩ : ByteArray) [.string (⟨#[73, 102, 45, 78, 111, 110, 101, 45, 77, 97, 116, 99, 104]⟩ : ByteArray)] from rfl) (Reps.one (show Kd.M Kd.string _ _ _ (⟨#[73, 102, 45, 77, 111, 100, 105, 102, 105, 101, 100, 45, 83, 105, 110, 99, 101]⟩ : ByteArray) [.string (⟨#[73, 102, 45, 77, 111, 100, 105, 102, 105, 101, 100, 45, 83, 105, 110, 99, 101]⟩ : ByteArray)] from rfl) (Reps.one (show Kd.M Kd.string _ _ _ (⟨#[73, 102, 45, 77, 97, 116, 99, 104]⟩ : ByteArray) [.string (⟨#[73, 102, 45, 77, 97, 116, 99, 104]⟩ : ByteArray)] from rfl) (Reps.one (show Kd.M Kd.string _ _ _ (⟨#[73, 102, 45, 85, 110, 109, 111, 100, 105, 102, 105, 101, 100, 45, 83, 105, 110, 99, 101]⟩ : ByteArray) [.string (⟨#[73, 102, 45, 85, 110, 109, 111, 100, 105, 102, 105, 101, 100, 45, 83, 105, 110, 99, 101]⟩ : ByteArray)] from rfl) (Reps.one (show Kd.M Kd.string _ _ _ (⟨#[73, 102, 45, 82, 97, 110, 103, 101]⟩ : ByteArray) [.string (⟨#[73, 102, 45, 82, 97, 110, 103, 101]⟩ : ByteArray)] from rfl) (Reps.one (show Kd.M Kd.string _ _ _ (⟨#[82, 97, 110, 103, 101]⟩ : ByteArray) [.string (⟨#[82, 97, 110, 103, 101]⟩ : ByteArray)] from rfl) (Reps.none _ _)))))))); intro v222 w8 ho9 hb hg_ hnew_; clear hg_ hnew_; (first | rw [← Ny221.out] at ho9 | (simp only [Int.reduceToNat] at ho9; rw [← Ny221.out] at ho9)); have n0_ := Aside0.mk (Kd.R_below (by (with_reducible repeat (first | apply Kd.R_alloc | apply Kd.R_drewN | apply Kd.R_drew)); exact HO220.out) hb); have n1_ := Aside0.mk (Kd.R_lower ho9 (below_size (by repeat (first | (with_reducible first | exact HB.out | apply below_alloc | apply pw_below_drewN | apply below_drew1) | exact HB.out)))); have n2_ := Aside0.mk (below_step (by repeat (first | (with_reducible first | exact HB.out | apply below_alloc | apply pw_below_drewN | apply below_drew1) | exact HB.out)) hb); clear HO220; clear HB; have HO220 := n0_; have HO223 := n1_; have HB := n2_; clear n0_ n1_ n2_; clear hb ho9; obtain ⟨Ao10, co10, eo10⟩ := Kd.R_slice HO220.out; subst eo10; obtain ⟨Ao11, co11, eo11⟩ := Kd.R_slice HO223.out; subst eo11) | ((with_reducible refine gate_callee (f := 21) rfl ?_); refine goesL_ (some 14) rfl rfl Tryd.func21 (by kernel_rfl) rfl #[.slice Ao10 t218.length co10, .slice Ao11 y221.length co11] rfl (by (try simp only [List.map_toArray, List.map_cons, List.map_nil]); first | done | rfl | (simp only [List.length_drop, List.length_take]; rfl)) ?_; (with_reducible refine (field_List_Without.calls k _ _ t218 _ _ y221 t224 _ ?side1 ?side2 ?side3 ?side4 A4.out).mono ?_); (case side1 => repeat (first | exact (Kd.R_reads' HO220.out).2.2 | (with_reducible refine Kd.C_alloc ?_ _) | (with_reducible refine Kd.C_drewN ?_ _) | (with_reducible refine Kd.C_drew ?_))); (case side2 => exact (Kd.R_reads' HO220.out).2.1); (case side3 => repeat (first | exact (Kd.R_reads' HO223.out).2.2 | (with_reducible refine Kd.C_alloc ?_ _) | (with_reducible refine Kd.C_drewN ?_ _) | (with_reducible refine Kd.C_drew ?_))); (case side4 => exact (Kd.R_reads' HO223.out).2.1); rintro e w12 ⟨v225, rfl, ho0, hb⟩; refine ⟨_, rfl, ?_⟩; have n0_ := Aside0.mk (Kd.R_elder' (by (with_reducible repeat (first | apply Kd.R_alloc | apply Kd.R_drewN | apply Kd.R_drew)); exact HO220.out) (Kd.R_base ho0) hb); have n1_ := Aside0.mk (Kd.R_below (by (with_reducible repeat (first | apply Kd.R_alloc | apply Kd.R_drewN | apply Kd.R_drew)); exact HO223.out) hb); have n2_ := Aside0.mk (Kd.R_lower (Kd.R_new' ho0 (Kd.R_lt (by (with_reducible repeat (first | apply Kd.R_alloc | apply Kd.R_drewN | apply Kd.R_drew)); exact HO220.out))) (below_size (by repeat (first | (with_reducible first | exact HB.out | apply below_alloc | apply pw_below_drewN | apply below_drew1) | exact HB.out)))); have n3_ := Aside0.mk (below_step (by repeat (first | (with_reducible first | exact HB.out | apply below_alloc | apply pw_below_drewN | apply below_drew1) | exact HB.out)) hb); clear HO220; clear HO223; clear HB; have HO220 := n0_; have HO223 := n1_; have HO226 := n2_; have HB := n3_; clear n0_ n1_ n2_ n3_; (try clear hb); (try clear hb2); (try clear hk); (try clear hi); (try clear ho0)) | ((with_reducible refine gate_callee (f := 49) rfl ?_); refine goesL_ (some 16) rfl rfl Tryd.func49 (by kernel_rfl) rfl #[.slice A1 l1.length c1] rfl (by (try simp only [List.map_toArray, List.map_cons, List.map_nil]); first | done | rfl | (simp only [List.length_drop, List.length_take]; rfl)) ?_; (with_reducible refine (pass_tag.calls k _ _ l1 t227 _ ?side1 ?side2 A5.out).mono ?_); (case side1 => repeat (first | exact (Kd.C_below HR1.out HB.out) | (with_reducible refine Kd.C_alloc ?_ _) | (with_reducible refine Kd.C_drewN ?_ _) | (with_reducible refine Kd.C_drew ?_))); (case side2 => exact HC1.out); rintro e w13 ⟨rfl, hb⟩; refine ⟨_, rfl, ?_⟩; have n0_ := Aside0.mk (Kd.R_below (by (with_reducible repeat (first | apply Kd.R_alloc | apply Kd.R_drewN | apply Kd.R_drew)); exact HO220.out) hb); have n1_ := Aside0.mk (Kd.R_below (by (with_reducible repeat (first | apply Kd.R_alloc | apply Kd.R_drewN | apply Kd.R_drew)); exact HO223.out) hb); have n2_ := Aside0.mk (Kd.R_below (by (with_reducible repeat (first | apply Kd.R_alloc | apply Kd.R_drewN | apply Kd.R_drew)); exact HO226.out) hb); have n3_ := Aside0.mk (below_step (by repeat (first | (with_reducible first | exact HB.out | apply below_alloc | apply pw_below_drewN | apply below_drew1) | exact HB.out)) hb); clear HO220; clear HO223; clear HO226; clear HB; have HO220 := n0_; have HO223 := n1_; have HO226 := n2_; have HB := n3_; clear n0_ n1_ n2_ n3_; (try clear hb); (try clear hb2); (try clear hk); (try clear hi)))
  (try simp only [Act.put, List.setIfInBounds_toArray, List.set_cons_zero, List.set_cons_succ])
  go_cut [5] (fun v5 wc => ∃ (kq : Nat) (x5_5 : List (S49)), Aside0 (pass_Asking.j0 kq l1 x5_5 = some r) ∧ Aside0 (kq ≤ k) ∧ Aside0 (Kd.R k49 49 wc w.heap.size (fun _ => True) v5 x5_5) ∧ Aside0 (Below w.heap.size w wc))
  case first =>
    have H := HC6.out
    clear HC6
    by_cases c14 : t227.toList = ([] : List UInt8)
    · rw [if_pos c14] at H
      have c14b0 : (t227.toList == ([] : List UInt8)) = true := beq_iff_eq.mpr c14
      have c14b1 : (t227.toList != ([] : List UInt8)) = false := bne_eq_false_iff_eq.mpr c14
      have c14b4 : (t227.toList).isEmpty = true := by have h_ := c14b1; revert h_; generalize t227.toList = l_; cases l_ <;> simp
      clear c14
      (first | rw [c14b4] | rw [c14b0] | (simp only [i64_w, i32_w]; rw [c14b0]) | skip)
      have H' := Aside0.mk H
      clear H
      go_wp2
      go_meet
      case rel => exact ⟨_, (t224), H', ⟨by first | omega | exact Nat.le_refl _⟩, ⟨by (with_reducible repeat (first | apply Kd.R_alloc | apply Kd.R_drewN | apply Kd.R_drew)); exact Kd.R_mono HO226.out (fun _ hk => trivial)⟩, ⟨by repeat (first | (with_reducible first | exact HB.out | apply below_alloc | apply pw_below_drewN | apply below_drew1) | exact HB.out)⟩⟩
    · rw [if_neg c14] at H
      have c14b0 : (t227.toList == ([] : List UInt8)) = false := beq_eq_false_iff_ne.mpr c14
      have c14b1 : (t227.toList != ([] : List UInt8)) = true := bne_iff_ne.mpr c14
      have c14b4 : (t227.toList).isEmpty = false := by have h_ := c14b1; revert h_; generalize t227.toList = l_; cases l_ <;> simp
      (first | rw [c14b4] | rw [c14b0] | (simp only [i64_w, i32_w]; rw [c14b0]) | skip)
      by_cases c15 : t224.length < 4398046511104
      · rw [if_pos c15] at H
        have LMc15 := Aside0.mk c15
        clear c15
        obtain ⟨y228, hy228⟩ : ∃ y_ : List (S49), y_ = (t224 ++ [(⟨(⟨#[73, 102, 45, 78, 111, 110, 101, 45, 77, 97, 116, 99, 104]⟩ : ByteArray), t227⟩ : S49)]) := ⟨_, rfl⟩
        replace H : (pass_Asking.j0 k l1 y228) = some r := by first | (rw [hy228]; with_reducible exact H) | (have H2_ := (Option.bind_some _ _).symm.trans H; rw [hy228]; with_reducible exact H2_) | (have H2_ := (Option.bind_some _ _).symm.trans H; with_reducible exact H2_) | with_reducible exact H | (rw [hy228]; exact H) | exact H
        have Ny228 := Aside0.mk hy228
        clear hy228
        have H' := Aside0.mk H
        clear H
        go_wp2_with (first | ((with_reducible refine gate_builtin (b := .append) (xs := #[.tmp 19, .tmp 22]) rfl ?_); at_builtin; refine Kd.R_append k49 (w0 := w) w.heap.size rfl (.tmp 19) (.tmp 22) 23 49 (.agg #[(.string ⟨#[]⟩), (.string ⟨#[]⟩)]) 32 rfl Tryd.underlying23 info49 rfl (by decide) (by omega) v225 t224 (⟨(⟨#[73, 102, 45, 78, 111, 110, 101, 45, 77, 97, 116, 99, 104]⟩ : ByteArray), t227⟩ : S49) [.string (⟨#[73, 102, 45, 78, 111, 110, 101, 45, 77, 97, 116, 99, 104]⟩ : ByteArray), .string t227] (fun k_ => some k_ ≠ (.slice Ao10 t218.length co10 : Value).ownBlock) (fun _ => False) rfl rfl ?aP (fun _ hk => hk.elim) ?aF ?aO ?aB ?aS ?aL ?_; (case aP => exact k49_mkM _ _ _ (⟨(⟨#[73, 102, 45, 78, 111, 110, 101, 45, 77, 97, 116, 99, 104]⟩ : ByteArray), t227⟩ : S49)); (case aB => exact (by repeat (first | (with_reducible first | exact HB.out | apply below_alloc | apply pw_below_drewN | apply below_drew1) | exact HB.out))); (case aF => exact (fun k_ hk => Kd.fresh' (Kd.R_lt (by (with_reducible repeat (first | apply Kd.R_alloc | apply Kd.R_drewN | apply Kd.R_drew)); exact HO220.out)) k_ hk)); (case aO => exact (by (with_reducible repeat (first | apply Kd.R_alloc | apply Kd.R_drewN | apply Kd.R_drew)); exact Kd.R_mono HO226.out (fun _ hk => hk.2))); (case aS => exact (below_size (by repeat (first | (with_reducible first | exact HB.out | apply below_alloc | apply pw_below_drewN | apply below_drew1) | exact HB.out)))); (case aL => have := LMc15.out; omega); intro v229 w16 ho hb hg hat; rw [← Ny228.out] at ho; have n0_ := Aside0.mk (Kd.R_after (ok := (fun _ => True)) (by (with_reducible repeat (first | apply Kd.R_alloc | apply Kd.R_drewN | apply Kd.R_drew)); exact HO220.out) hg hat); have n1_ := Aside0.mk (Kd.R_over' (by (with_reducible repeat (first | apply Kd.R_alloc | apply Kd.R_drewN | apply Kd.R_drew)); exact HO223.out) (Kd.R_typed (by (with_reducible repeat (first | apply Kd.R_alloc | apply Kd.R_drewN | apply Kd.R_drew)); exact HO226.out)) (by decide) hg); have n2_ := Aside0.mk (hb); have n3_ := Aside0.mk (ho); clear HO220; clear HO223; clear HB; clear HO226; have HO220 := n0_; have HO223 := n1_; have HB := n2_; have HO230 := n3_; clear n0_ n1_ n2_ n3_; clear ho hb hg hat))
        go_meet
        case rel => exact ⟨_, (y228), H', ⟨by first | omega | exact Nat.le_refl _⟩, ⟨by (with_reducible repeat (first | apply Kd.R_alloc | apply Kd.R_drewN | apply Kd.R_drew)); exact Kd.R_mono HO230.out (fun _ hk => trivial)⟩, ⟨by repeat (first | (with_reducible first | exact HB.out | apply below_alloc | apply pw_below_drewN | apply below_drew1) | exact HB.out)⟩⟩
      · rw [if_neg c15] at H
        exact absurd H (by simp)
  case rest =>
    clear HC6
    try clear c1
    try clear c2
    try clear p2
    try clear c4
    try clear c14
    try clear c14b0
    try clear c14b1
    try clear c15
    obtain ⟨kq, x5_5, HA, HJ5, HO_5, HB⟩ := hcut
    cases kq with
    | zero => exact absurd HA.out (by simp [pass_Asking.j0])
    | succ kj5 =>
      have H := HA.out
      clear HA
      simp only [pass_Asking.j0] at H
      replace H := Option.bind_eq_some_iff.mp H
      obtain ⟨⟨t231, t232⟩, A170, H⟩ := H
      replace H : (if t232 = true then ((field_List_Get.f kj5 l1 (⟨#[76, 97, 115, 116, 45, 77, 111, 100, 105, 102, 105, 101, 100]⟩ : ByteArray)).bind fun bt233 => (if x5_5.length < 4398046511104 then (some (x5_5 ++ [(⟨(⟨#[73, 102, 45, 77, 111, 100, 105, 102, 105, 101, 100, 45, 83, 105, 110, 99, 101]⟩ : ByteArray), bt233.1⟩ : S49)])) else (none))) else (some x5_5)) = some r := H
      have A17 := Aside0.mk A170
      clear A170
      by_cases c18 : t232 = true
      · subst c18
        have H1 : ((field_List_Get.f kj5 l1 (⟨#[76, 97, 115, 116, 45, 77, 111, 100, 105, 102, 105, 101, 100]⟩ : ByteArray)).bind fun bt233 => (if x5_5.length < 4398046511104 then (some (x5_5 ++ [(⟨(⟨#[73, 102, 45, 77, 111, 100, 105, 102, 105, 101, 100, 45, 83, 105, 110, 99, 101]⟩ : ByteArray), bt233.1⟩ : S49)])) else (none))) = some r := by rw [if_pos rfl] at H; exact H
        clear H
        have H := H1
        clear H1
        replace H := Option.bind_eq_some_iff.mp H
        obtain ⟨⟨t233, t234⟩, A190, H⟩ := H
        replace H : (if x5_5.length < 4398046511104 then (some (x5_5 ++ [(⟨(⟨#[73, 102, 45, 77, 111, 100, 105, 102, 105, 101, 100, 45, 83, 105, 110, 99, 101]⟩ : ByteArray), t233⟩ : S49)])) else (none)) = some r := H
        have A19 := Aside0.mk A190
        clear A190
        by_cases c20 : x5_5.length < 4398046511104
        · rw [if_pos c20] at H
          have LMc20 := Aside0.mk c20
          clear c20
          obtain ⟨y235, hy235⟩ : ∃ y_ : List (S49), y_ = (x5_5 ++ [(⟨(⟨#[73, 102, 45, 77, 111, 100, 105, 102, 105, 101, 100, 45, 83, 105, 110, 99, 101]⟩ : ByteArray), t233⟩ : S49)]) := ⟨_, rfl⟩
          replace H : (some y235) = some r := by first | (rw [hy235]; with_reducible exact H) | (have H2_ := (Option.bind_some _ _).symm.trans H; rw [hy235]; with_reducible exact H2_) | (have H2_ := (Option.bind_some _ _).symm.trans H; with_reducible exact H2_) | with_reducible exact H | (rw [hy235]; exact H) | exact H
          have Ny235 := Aside0.mk hy235
          clear hy235
          obtain rfl := Option.some.inj H
          go_wp2_with (first | ((with_reducible refine gate_callee (f := 50) rfl ?_); refine goesL_ (some 26) rfl rfl Tryd.func50 (by kernel_rfl) rfl #[.slice A1 l1.length c1, .string (⟨#[76, 97, 115, 116, 45, 77, 111, 100, 105, 102, 105, 101, 100]⟩ : ByteArray)] rfl (by (try simp only [List.map_toArray, List.map_cons, List.map_nil]); first | done | rfl | (simp only [List.length_drop, List.length_take]; rfl)) ?_; (with_reducible refine (pass_dated.calls kj5 _ _ l1 (⟨#[76, 97, 115, 116, 45, 77, 111, 100, 105, 102, 105, 101, 100]⟩ : ByteArray) t231 true _ ?side1 ?side2 ?side3 A17.out).mono ?_); (case side1 => repeat (first | exact (Kd.C_below HR1.out HB.out) | (with_reducible refine Kd.C_alloc ?_ _) | (with_reducible refine Kd.C_drewN ?_ _) | (with_reducible refine Kd.C_drew ?_))); (case side2 => exact HC1.out); (case side3 => repeat (first | exact (WF.below HRW.out HB.out) | (with_reducible refine Kd.C_alloc ?_ _) | (with_reducible refine Kd.C_drewN ?_ _) | (with_reducible refine Kd.C_drew ?_))); rintro e w21 ⟨rfl, hb⟩; refine ⟨_, rfl, ?_⟩; have n0_ := Aside0.mk (Kd.R_below (by (with_reducible repeat (first | apply Kd.R_alloc | apply Kd.R_drewN | apply Kd.R_drew)); exact HO_5.out) hb); have n1_ := Aside0.mk (below_step (by repeat (first | (with_reducible first | exact HB.out | apply below_alloc | apply pw_below_drewN | apply below_drew1) | exact HB.out)) hb); clear HO_5; clear HB; have HO_5 := n0_; have HB := n1_; clear n0_ n1_; (try clear hb); (try clear hb2); (try clear hk); (try clear hi)) | ((with_reducible refine gate_callee (f := 14) rfl ?_); refine goesL_ (some 32) rfl rfl Tryd.func14 (by kernel_rfl) rfl #[.slice A1 l1.length c1, .string (⟨#[76, 97, 115, 116, 45, 77, 111, 100, 105, 102, 105, 101, 100]⟩ : ByteArray)] rfl (by (try simp only [List.map_toArray, List.map_cons, List.map_nil]); first | done | rfl | (simp only [List.length_drop, List.length_take]; rfl)) ?_; (with_reducible refine (field_List_Get.calls kj5 _ _ l1 (⟨#[76, 97, 115, 116, 45, 77, 111, 100, 105, 102, 105, 101, 100]⟩ : ByteArray) t233 t234 _ ?side1 ?side2 A19.out).mono ?_); (case side1 => repeat (first | exact (Kd.C_below HR1.out HB.out) | (with_reducible refine Kd.C_alloc ?_ _) | (with_reducible refine Kd.C_drewN ?_ _) | (with_reducible refine Kd.C_drew ?_))); (case side2 => exact HC1.out); rintro e w22 ⟨rfl, hb⟩; refine ⟨_, rfl, ?_⟩; have n0_ := Aside0.mk (Kd.R_below (by (with_reducible repeat (first | apply Kd.R_alloc | apply Kd.R_drewN | apply Kd.R_drew)); exact HO_5.out) hb); have n1_ := Aside0.mk (below_step (by repeat (first | (with_reducible first | exact HB.out | apply below_alloc | apply pw_below_drewN | apply below_drew1) | exact HB.out)) hb); clear HO_5; clear HB; have HO_5 := n0_; have HB := n1_; clear n0_ n1_; (try clear hb); (try clear hb2); (try clear hk); (try clear hi)) | ((with_reducible refine gate_builtin (b := .append) (xs := #[.tmp 35, .tmp 38]) rfl ?_); at_builtin; refine Kd.R_append k49 (w0 := w) w.heap.size rfl (.tmp 35) (.tmp 38) 23 49 (.agg #[(.string ⟨#[]⟩), (.string ⟨#[]⟩)]) 32 rfl Tryd.underlying23 info49 rfl (by decide) (by omega) u5 x5_5 (⟨(⟨#[73, 102, 45, 77, 111, 100, 105, 102, 105, 101, 100, 45, 83, 105, 110, 99, 101]⟩ : ByteArray), t233⟩ : S49) [.string (⟨#[73, 102, 45, 77, 111, 100, 105, 102, 105, 101, 100, 45, 83, 105, 110, 99, 101]⟩ : ByteArray), .string t233] (fun _ => True) (fun _ => False) rfl rfl ?aP (fun _ hk => hk.elim) ?aF ?aO ?aB ?aS ?aL ?_; (case aP => exact k49_mkM _ _ _ (⟨(⟨#[73, 102, 45, 77, 111, 100, 105, 102, 105, 101, 100, 45, 83, 105, 110, 99, 101]⟩ : ByteArray), t233⟩ : S49)); (case aB => exact (by repeat (first | (with_reducible first | exact HB.out | apply below_alloc | apply pw_below_drewN | apply below_drew1) | exact HB.out))); (case aF => exact (fun _ _ => trivial)); (case aO => exact (by (with_reducible repeat (first | apply Kd.R_alloc | apply Kd.R_drewN | apply Kd.R_drew)); exact HO_5.out)); (case aS => exact (below_size (by repeat (first | (with_reducible first | exact HB.out | apply below_alloc | apply pw_below_drewN | apply below_drew1) | exact HB.out)))); (case aL => have := LMc20.out; omega); intro v236 w23 ho hb hg hat; rw [← Ny235.out] at ho; have n0_ := Aside0.mk (hb); have n1_ := Aside0.mk (ho); clear HB; clear HO_5; have HB := n0_; have HO237 := n1_; clear n0_ n1_; clear ho hb hg hat))
          go_ret
          exact ⟨_, by first | rfl | (generalize ByteArray.toList _ = l_; cases l_ <;> rfl) | (simp [errW_none, errW_some] <;> rfl) | (simp [*, errW_none, errW_some] <;> rfl), by (with_reducible repeat (first | apply Kd.R_alloc | apply Kd.R_drewN | apply Kd.R_drew)); exact HO237.out, by repeat (first | (with_reducible first | exact HB.out | apply below_alloc | apply pw_below_drewN | apply below_drew1) | exact HB.out)⟩
        · rw [if_neg c20] at H
          exact absurd H (by simp)
      · replace c18 := Bool.eq_false_iff.mpr c18
        subst c18
        have H1 : (some x5_5) = some r := by rw [if_neg (show ¬ (false = true) by decide)] at H; exact H
        clear H
        have H := H1
        clear H1
        obtain rfl := Option.some.inj H
        go_wp2_with (first | ((with_reducible refine gate_callee (f := 50) rfl ?_); refine goesL_ (some 26) rfl rfl Tryd.func50 (by kernel_rfl) rfl #[.slice A1 l1.length c1, .string (⟨#[76, 97, 115, 116, 45, 77, 111, 100, 105, 102, 105, 101, 100]⟩ : ByteArray)] rfl (by (try simp only [List.map_toArray, List.map_cons, List.map_nil]); first | done | rfl | (simp only [List.length_drop, List.length_take]; rfl)) ?_; (with_reducible refine (pass_dated.calls kj5 _ _ l1 (⟨#[76, 97, 115, 116, 45, 77, 111, 100, 105, 102, 105, 101, 100]⟩ : ByteArray) t231 false _ ?side1 ?side2 ?side3 A17.out).mono ?_); (case side1 => repeat (first | exact (Kd.C_below HR1.out HB.out) | (with_reducible refine Kd.C_alloc ?_ _) | (with_reducible refine Kd.C_drewN ?_ _) | (with_reducible refine Kd.C_drew ?_))); (case side2 => exact HC1.out); (case side3 => repeat (first | exact (WF.below HRW.out HB.out) | (with_reducible refine Kd.C_alloc ?_ _) | (with_reducible refine Kd.C_drewN ?_ _) | (with_reducible refine Kd.C_drew ?_))); rintro e w24 ⟨rfl, hb⟩; refine ⟨_, rfl, ?_⟩; have n0_ := Aside0.mk (Kd.R_below (by (with_reducible repeat (first | apply Kd.R_alloc | apply Kd.R_drewN | apply Kd.R_drew)); exact HO_5.out) hb); have n1_ := Aside0.mk (below_step (by repeat (first | (with_reducible first | exact HB.out | apply below_alloc | apply pw_below_drewN | apply below_drew1) | exact HB.out)) hb); clear HO_5; clear HB; have HO_5 := n0_; have HB := n1_; clear n0_ n1_; (try clear hb); (try clear hb2); (try clear hk); (try clear hi)))
        go_ret
        exact ⟨_, by first | rfl | (generalize ByteArray.toList _ = l_; cases l_ <;> rfl) | (simp [errW_none, errW_some] <;> rfl) | (simp [*, errW_none, errW_some] <;> rfl), by (with_reducible repeat (first | apply Kd.R_alloc | apply Kd.R_drewN | apply Kd.R_drew)); exact HO_5.out, by repeat (first | (with_reducible first | exact HB.out | apply below_alloc | apply pw_below_drewN | apply below_drew1) | exact HB.out)⟩

end Go.Proofs.YtcechlbeghcliaaDoor.PAll
