-- Text by a program of this session, over what print.py prints.
import Derived.Test.YtiaiengdncdiaaaPAllx0
import Derived.Test.YtiaiengdncdiaaaPAllx1
import Derived.Test.YtiaiengdncdiaaaPAllx2
namespace Go.Proofs.Ytiaiengdncdiaaa.PAll
open Go.RowKit Go.Proofs.YtiaiengdncdiaaaW.PrintWords Go.Proofs.YtiaiengdncdiaaaW.PrintLast Go.Proofs.YtiaiengdncdiaaaW.PrintMore
attribute [local go_sem] max2_int min2_int max_two min_two max_three min_three max_four min_four   -- for this text's walks alone
set_option linter.unusedVariables false
set_option linter.unusedSimpArgs false

/-! ### date_Read: function 15 -/
mutual
def date_Read.j0 : Nat → ByteArray → Int → Int → Int → Int → Int → Int → Bool → Option (Int × Int)
  | 0, _, _, _, _, _, _, _, _ => none
  | k + 1, x0, x4, x5, x6, x7, x8, x9, x79 => if x79 = true then (some (0, 14)) else ((date_before.f x5).bind fun t113 => (date_Read.l0 k x0 x4 x5 x7 x8 x9 (wrap64 ((wrap64 (t113 + x6)) - 1)) 1))
def date_Read.l0 : Nat → ByteArray → Int → Int → Int → Int → Int → Int → Int → Option (Int × Int)
  | 0, _, _, _, _, _, _, _, _ => none
  | k + 1, x0, x4, x5, x7, x8, x9, x10, x11 => if x11 ≤ (wrap64 (Int.tdiv x4 3)) then ((date_Days.f k x5 x11).bind fun t114 => (date_Read.l0 k x0 x4 x5 x7 x8 x9 (wrap64 (x10 + t114)) (wrap64 (x11 + 1)))) else ((date_Show.f k (wrap64 ((wrap64 ((wrap64 ((wrap64 (x10 * 86400)) + (wrap64 (x7 * 3600)))) + (wrap64 (x8 * 60)))) + x9))).bind fun bt115 => (if bt115.1.toList = x0.toList then (some (wrap64 ((wrap64 ((wrap64 ((wrap64 (x10 * 86400)) + (wrap64 (x7 * 3600)))) + (wrap64 (x8 * 60)))) + x9), 0)) else (some (0, 14))))
end
def date_Read.f (k : Nat) (a0 : ByteArray) : Option (Int × Int) := if (a0.size : Int) = 29 then (if 8 ≤ 11 then (if 11 ≤ (a0.size : Int) then ((strings_Index.f (⟨#[74, 97, 110, 70, 101, 98, 77, 97, 114, 65, 112, 114, 77, 97, 121, 74, 117, 110, 74, 117, 108, 65, 117, 103, 83, 101, 112, 79, 99, 116, 78, 111, 118, 68, 101, 99]⟩ : ByteArray) (a0.extract 8 11)).bind fun t106 => (if 12 ≤ 16 then (if 16 ≤ (a0.size : Int) then ((date_digits.f k (a0.extract 12 16)).bind fun t107 => (if 5 ≤ 7 then (if 7 ≤ (a0.size : Int) then ((date_digits.f k (a0.extract 5 7)).bind fun t108 => (if 17 ≤ 19 then (if 19 ≤ (a0.size : Int) then ((date_digits.f k (a0.extract 17 19)).bind fun t109 => (if 20 ≤ 22 then (if 22 ≤ (a0.size : Int) then ((date_digits.f k (a0.extract 20 22)).bind fun t110 => (if 23 ≤ 25 then (if 25 ≤ (a0.size : Int) then ((date_digits.f k (a0.extract 23 25)).bind fun t111 => (if t106 < 0 then (date_Read.j0 k a0 t106 t107 t108 t109 t110 t111 true) else (if (Int.tmod t106 3) = 0 then (if t108 < 1 then (date_Read.j0 k a0 t106 t107 t108 t109 t110 t111 true) else ((date_Days.f k t107 (wrap64 ((wrap64 (Int.tdiv t106 3)) + 1))).bind fun t112 => (if t108 > t112 then (date_Read.j0 k a0 t106 t107 t108 t109 t110 t111 true) else (if t109 < 0 then (date_Read.j0 k a0 t106 t107 t108 t109 t110 t111 true) else (if t109 > 23 then (date_Read.j0 k a0 t106 t107 t108 t109 t110 t111 true) else (if t110 < 0 then (date_Read.j0 k a0 t106 t107 t108 t109 t110 t111 true) else (if t110 > 59 then (date_Read.j0 k a0 t106 t107 t108 t109 t110 t111 true) else (if t111 < 0 then (date_Read.j0 k a0 t106 t107 t108 t109 t110 t111 true) else (date_Read.j0 k a0 t106 t107 t108 t109 t110 t111 (decide (t111 > 59))))))))))) else (date_Read.j0 k a0 t106 t107 t108 t109 t110 t111 true)))) else (none)) else (none))) else (none)) else (none))) else (none)) else (none))) else (none)) else (none))) else (none)) else (none))) else (none)) else (none)) else (some (0, 14))
theorem date_Read.mono_l : ∀ k, (∀ y0 y1 y2 y3 y4 y5 y6 y7, LeO (date_Read.j0 k y0 y1 y2 y3 y4 y5 y6 y7) (date_Read.j0 (k + 1) y0 y1 y2 y3 y4 y5 y6 y7)) ∧ (∀ y0 y1 y2 y3 y4 y5 y6 y7, LeO (date_Read.l0 k y0 y1 y2 y3 y4 y5 y6 y7) (date_Read.l0 (k + 1) y0 y1 y2 y3 y4 y5 y6 y7))
  | 0 => ⟨fun _ _ _ _ _ _ _ _ r h => by simp [date_Read.j0] at h, fun _ _ _ _ _ _ _ _ r h => by simp [date_Read.l0] at h⟩
  | k + 1 => by
    obtain ⟨ih0, ih1⟩ := date_Read.mono_l k
    refine ⟨?_, ?_⟩
    · intro y0 y1 y2 y3 y4 y5 y6 y7
      unfold date_Read.j0
      repeat' first
      | (with_reducible exact ih0 _ _ _ _ _ _ _ _)
      | (with_reducible exact ih1 _ _ _ _ _ _ _ _)
      | (with_reducible exact date_Days.mono _ _ _)
      | (with_reducible exact date_Show.mono _ _)
      | (with_reducible exact date_digits.mono _ _)
      | (with_reducible exact LeO.refl _)
      | (with_reducible exact LeO.none _)
      | (with_reducible refine LeO.ite ?_ ?_)
      | (with_reducible refine LeO.bind ?_ (fun _ => ?_))
      | exact ih0 _ _ _ _ _ _ _ _
      | exact ih1 _ _ _ _ _ _ _ _
      | exact date_Days.mono _ _ _
      | exact date_Show.mono _ _
      | exact date_digits.mono _ _
      | exact LeO.none _
      | refine LeO.ite ?_ ?_
      | refine LeO.bind ?_ (fun _ => ?_)
    · intro y0 y1 y2 y3 y4 y5 y6 y7
      unfold date_Read.l0
      repeat' first
      | (with_reducible exact ih0 _ _ _ _ _ _ _ _)
      | (with_reducible exact ih1 _ _ _ _ _ _ _ _)
      | (with_reducible exact date_Days.mono _ _ _)
      | (with_reducible exact date_Show.mono _ _)
      | (with_reducible exact date_digits.mono _ _)
      | (with_reducible exact LeO.refl _)
      | (with_reducible exact LeO.none _)
      | (with_reducible refine LeO.ite ?_ ?_)
      | (with_reducible refine LeO.bind ?_ (fun _ => ?_))
      | exact ih0 _ _ _ _ _ _ _ _
      | exact ih1 _ _ _ _ _ _ _ _
      | exact date_Days.mono _ _ _
      | exact date_Show.mono _ _
      | exact date_digits.mono _ _
      | exact LeO.none _
      | refine LeO.ite ?_ ?_
      | refine LeO.bind ?_ (fun _ => ?_)
theorem date_Read.mono : ∀ a0 k, LeO (date_Read.f k a0) (date_Read.f (k + 1) a0) := by
  intro a0 k
  obtain ⟨ih0, ih1⟩ := date_Read.mono_l k
  unfold date_Read.f
  repeat' first
      | (with_reducible exact ih0 _ _ _ _ _ _ _ _)
      | (with_reducible exact ih1 _ _ _ _ _ _ _ _)
      | (with_reducible exact date_Days.mono _ _ _)
      | (with_reducible exact date_Show.mono _ _)
      | (with_reducible exact date_digits.mono _ _)
      | (with_reducible exact LeO.refl _)
      | (with_reducible exact LeO.none _)
      | (with_reducible refine LeO.ite ?_ ?_)
      | (with_reducible refine LeO.bind ?_ (fun _ => ?_))
      | exact ih0 _ _ _ _ _ _ _ _
      | exact ih1 _ _ _ _ _ _ _ _
      | exact date_Days.mono _ _ _
      | exact date_Show.mono _ _
      | exact date_digits.mono _ _
      | exact LeO.none _
      | refine LeO.ite ?_ ?_
      | refine LeO.bind ?_ (fun _ => ?_)
set_option maxHeartbeats 8000000 in
set_option maxRecDepth 100000 in
theorem date_Read.calls (k : Nat) (a0 : ByteArray) (r1 : Int) (r2 : Int) (w : World) (hrW : WF w) (h : date_Read.f k a0 = some (r1, r2)) :
    Calls Try.prog 15 #[.string a0] w fun e w' => e = .returned (.tuple #[.int .i64 r1, .int .i64 r2]) ∧ Below w.heap.size w w' := by
  have HRW := Aside0.mk hrW
  clear hrW
  have HB := Aside0.mk (Below.refl w.heap.size w)
  have H : (if (a0.size : Int) = 29 then (if 8 ≤ 11 then (if 11 ≤ (a0.size : Int) then ((strings_Index.f (⟨#[74, 97, 110, 70, 101, 98, 77, 97, 114, 65, 112, 114, 77, 97, 121, 74, 117, 110, 74, 117, 108, 65, 117, 103, 83, 101, 112, 79, 99, 116, 78, 111, 118, 68, 101, 99]⟩ : ByteArray) (a0.extract 8 11)).bind fun t106 => (if 12 ≤ 16 then (if 16 ≤ (a0.size : Int) then ((date_digits.f k (a0.extract 12 16)).bind fun t107 => (if 5 ≤ 7 then (if 7 ≤ (a0.size : Int) then ((date_digits.f k (a0.extract 5 7)).bind fun t108 => (if 17 ≤ 19 then (if 19 ≤ (a0.size : Int) then ((date_digits.f k (a0.extract 17 19)).bind fun t109 => (if 20 ≤ 22 then (if 22 ≤ (a0.size : Int) then ((date_digits.f k (a0.extract 20 22)).bind fun t110 => (if 23 ≤ 25 then (if 25 ≤ (a0.size : Int) then ((date_digits.f k (a0.extract 23 25)).bind fun t111 => (if t106 < 0 then (date_Read.j0 k a0 t106 t107 t108 t109 t110 t111 true) else (if (Int.tmod t106 3) = 0 then (if t108 < 1 then (date_Read.j0 k a0 t106 t107 t108 t109 t110 t111 true) else ((date_Days.f k t107 (wrap64 ((wrap64 (Int.tdiv t106 3)) + 1))).bind fun t112 => (if t108 > t112 then (date_Read.j0 k a0 t106 t107 t108 t109 t110 t111 true) else (if t109 < 0 then (date_Read.j0 k a0 t106 t107 t108 t109 t110 t111 true) else (if t109 > 23 then (date_Read.j0 k a0 t106 t107 t108 t109 t110 t111 true) else (if t110 < 0 then (date_Read.j0 k a0 t106 t107 t108 t109 t110 t111 true) else (if t110 > 59 then (date_Read.j0 k a0 t106 t107 t108 t109 t110 t111 true) else (if t111 < 0 then (date_Read.j0 k a0 t106 t107 t108 t109 t110 t111 true) else (date_Read.j0 k a0 t106 t107 t108 t109 t110 t111 (decide (t111 > 59))))))))))) else (date_Read.j0 k a0 t106 t107 t108 t109 t110 t111 true)))) else (none)) else (none))) else (none)) else (none))) else (none)) else (none))) else (none)) else (none))) else (none)) else (none))) else (none)) else (none)) else (some (0, 14))) = some (r1, r2) := h
  clear h
  by_cases c2 : (a0.size : Int) = 29
  · rw [if_pos c2] at H
    have c2b0 : ((a0.size : Int) == 29) = true := beq_iff_eq.mpr c2
    have c2b1 : ((a0.size : Int) != 29) = false := bne_eq_false_iff_eq.mpr c2
    clear c2
    by_cases c3 : 8 ≤ 11
    · rw [if_pos c3] at H
      have c3b0 := eq_true c3
      have c3b1 : decide (8 ≤ 11) = true := decide_eq_true c3
      clear c3
      by_cases c4 : 11 ≤ (a0.size : Int)
      · rw [if_pos c4] at H
        have c4b0 := eq_true c4
        have c4b1 : decide (11 ≤ (a0.size : Int)) = true := decide_eq_true c4
        clear c4
        replace H := Option.bind_eq_some_iff.mp H
        obtain ⟨t106, A50, H⟩ := H
        replace H : (if 12 ≤ 16 then (if 16 ≤ (a0.size : Int) then ((date_digits.f k (a0.extract 12 16)).bind fun t107 => (if 5 ≤ 7 then (if 7 ≤ (a0.size : Int) then ((date_digits.f k (a0.extract 5 7)).bind fun t108 => (if 17 ≤ 19 then (if 19 ≤ (a0.size : Int) then ((date_digits.f k (a0.extract 17 19)).bind fun t109 => (if 20 ≤ 22 then (if 22 ≤ (a0.size : Int) then ((date_digits.f k (a0.extract 20 22)).bind fun t110 => (if 23 ≤ 25 then (if 25 ≤ (a0.size : Int) then ((date_digits.f k (a0.extract 23 25)).bind fun t111 => (if t106 < 0 then (date_Read.j0 k a0 t106 t107 t108 t109 t110 t111 true) else (if (Int.tmod t106 3) = 0 then (if t108 < 1 then (date_Read.j0 k a0 t106 t107 t108 t109 t110 t111 true) else ((date_Days.f k t107 (wrap64 ((wrap64 (Int.tdiv t106 3)) + 1))).bind fun t112 => (if t108 > t112 then (date_Read.j0 k a0 t106 t107 t108 t109 t110 t111 true) else (if t109 < 0 then (date_Read.j0 k a0 t106 t107 t108 t109 t110 t111 true) else (if t109 > 23 then (date_Read.j0 k a0 t106 t107 t108 t109 t110 t111 true) else (if t110 < 0 then (date_Read.j0 k a0 t106 t107 t108 t109 t110 t111 true) else (if t110 > 59 then (date_Read.j0 k a0 t106 t107 t108 t109 t110 t111 true) else (if t111 < 0 then (date_Read.j0 k a0 t106 t107 t108 t109 t110 t111 true) else (date_Read.j0 k a0 t106 t107 t108 t109 t110 t111 (decide (t111 > 59))))))))))) else (date_Read.j0 k a0 t106 t107 t108 t109 t110 t111 true)))) else (none)) else (none))) else (none)) else (none))) else (none)) else (none))) else (none)) else (none))) else (none)) else (none)) = some (r1, r2) := H
        have A5 := Aside0.mk A50
        clear A50
        by_cases c6 : 12 ≤ 16
        · rw [if_pos c6] at H
          have c6b0 := eq_true c6
          have c6b1 : decide (12 ≤ 16) = true := decide_eq_true c6
          clear c6
          by_cases c7 : 16 ≤ (a0.size : Int)
          · rw [if_pos c7] at H
            have c7b0 := eq_true c7
            have c7b1 : decide (16 ≤ (a0.size : Int)) = true := decide_eq_true c7
            clear c7
            replace H := Option.bind_eq_some_iff.mp H
            obtain ⟨t107, A80, H⟩ := H
            replace H : (if 5 ≤ 7 then (if 7 ≤ (a0.size : Int) then ((date_digits.f k (a0.extract 5 7)).bind fun t108 => (if 17 ≤ 19 then (if 19 ≤ (a0.size : Int) then ((date_digits.f k (a0.extract 17 19)).bind fun t109 => (if 20 ≤ 22 then (if 22 ≤ (a0.size : Int) then ((date_digits.f k (a0.extract 20 22)).bind fun t110 => (if 23 ≤ 25 then (if 25 ≤ (a0.size : Int) then ((date_digits.f k (a0.extract 23 25)).bind fun t111 => (if t106 < 0 then (date_Read.j0 k a0 t106 t107 t108 t109 t110 t111 true) else (if (Int.tmod t106 3) = 0 then (if t108 < 1 then (date_Read.j0 k a0 t106 t107 t108 t109 t110 t111 true) else ((date_Days.f k t107 (wrap64 ((wrap64 (Int.tdiv t106 3)) + 1))).bind fun t112 => (if t108 > t112 then (date_Read.j0 k a0 t106 t107 t108 t109 t110 t111 true) else (if t109 < 0 then (date_Read.j0 k a0 t106 t107 t108 t109 t110 t111 true) else (if t109 > 23 then (date_Read.j0 k a0 t106 t107 t108 t109 t110 t111 true) else (if t110 < 0 then (date_Read.j0 k a0 t106 t107 t108 t109 t110 t111 true) else (if t110 > 59 then (date_Read.j0 k a0 t106 t107 t108 t109 t110 t111 true) else (if t111 < 0 then (date_Read.j0 k a0 t106 t107 t108 t109 t110 t111 true) else (date_Read.j0 k a0 t106 t107 t108 t109 t110 t111 (decide (t111 > 59))))))))))) else (date_Read.j0 k a0 t106 t107 t108 t109 t110 t111 true)))) else (none)) else (none))) else (none)) else (none))) else (none)) else (none))) else (none)) else (none)) = some (r1, r2) := H
            have A8 := Aside0.mk A80
            clear A80
            by_cases c9 : 5 ≤ 7
            · rw [if_pos c9] at H
              have c9b0 := eq_true c9
              have c9b1 : decide (5 ≤ 7) = true := decide_eq_true c9
              clear c9
              by_cases c10 : 7 ≤ (a0.size : Int)
              · rw [if_pos c10] at H
                have c10b0 := eq_true c10
                have c10b1 : decide (7 ≤ (a0.size : Int)) = true := decide_eq_true c10
                clear c10
                replace H := Option.bind_eq_some_iff.mp H
                obtain ⟨t108, A110, H⟩ := H
                replace H : (if 17 ≤ 19 then (if 19 ≤ (a0.size : Int) then ((date_digits.f k (a0.extract 17 19)).bind fun t109 => (if 20 ≤ 22 then (if 22 ≤ (a0.size : Int) then ((date_digits.f k (a0.extract 20 22)).bind fun t110 => (if 23 ≤ 25 then (if 25 ≤ (a0.size : Int) then ((date_digits.f k (a0.extract 23 25)).bind fun t111 => (if t106 < 0 then (date_Read.j0 k a0 t106 t107 t108 t109 t110 t111 true) else (if (Int.tmod t106 3) = 0 then (if t108 < 1 then (date_Read.j0 k a0 t106 t107 t108 t109 t110 t111 true) else ((date_Days.f k t107 (wrap64 ((wrap64 (Int.tdiv t106 3)) + 1))).bind fun t112 => (if t108 > t112 then (date_Read.j0 k a0 t106 t107 t108 t109 t110 t111 true) else (if t109 < 0 then (date_Read.j0 k a0 t106 t107 t108 t109 t110 t111 true) else (if t109 > 23 then (date_Read.j0 k a0 t106 t107 t108 t109 t110 t111 true) else (if t110 < 0 then (date_Read.j0 k a0 t106 t107 t108 t109 t110 t111 true) else (if t110 > 59 then (date_Read.j0 k a0 t106 t107 t108 t109 t110 t111 true) else (if t111 < 0 then (date_Read.j0 k a0 t106 t107 t108 t109 t110 t111 true) else (date_Read.j0 k a0 t106 t107 t108 t109 t110 t111 (decide (t111 > 59))))))))))) else (date_Read.j0 k a0 t106 t107 t108 t109 t110 t111 true)))) else (none)) else (none))) else (none)) else (none))) else (none)) else (none)) = some (r1, r2) := H
                have A11 := Aside0.mk A110
                clear A110
                by_cases c12 : 17 ≤ 19
                · rw [if_pos c12] at H
                  have c12b0 := eq_true c12
                  have c12b1 : decide (17 ≤ 19) = true := decide_eq_true c12
                  clear c12
                  by_cases c13 : 19 ≤ (a0.size : Int)
                  · rw [if_pos c13] at H
                    have c13b0 := eq_true c13
                    have c13b1 : decide (19 ≤ (a0.size : Int)) = true := decide_eq_true c13
                    clear c13
                    replace H := Option.bind_eq_some_iff.mp H
                    obtain ⟨t109, A140, H⟩ := H
                    replace H : (if 20 ≤ 22 then (if 22 ≤ (a0.size : Int) then ((date_digits.f k (a0.extract 20 22)).bind fun t110 => (if 23 ≤ 25 then (if 25 ≤ (a0.size : Int) then ((date_digits.f k (a0.extract 23 25)).bind fun t111 => (if t106 < 0 then (date_Read.j0 k a0 t106 t107 t108 t109 t110 t111 true) else (if (Int.tmod t106 3) = 0 then (if t108 < 1 then (date_Read.j0 k a0 t106 t107 t108 t109 t110 t111 true) else ((date_Days.f k t107 (wrap64 ((wrap64 (Int.tdiv t106 3)) + 1))).bind fun t112 => (if t108 > t112 then (date_Read.j0 k a0 t106 t107 t108 t109 t110 t111 true) else (if t109 < 0 then (date_Read.j0 k a0 t106 t107 t108 t109 t110 t111 true) else (if t109 > 23 then (date_Read.j0 k a0 t106 t107 t108 t109 t110 t111 true) else (if t110 < 0 then (date_Read.j0 k a0 t106 t107 t108 t109 t110 t111 true) else (if t110 > 59 then (date_Read.j0 k a0 t106 t107 t108 t109 t110 t111 true) else (if t111 < 0 then (date_Read.j0 k a0 t106 t107 t108 t109 t110 t111 true) else (date_Read.j0 k a0 t106 t107 t108 t109 t110 t111 (decide (t111 > 59))))))))))) else (date_Read.j0 k a0 t106 t107 t108 t109 t110 t111 true)))) else (none)) else (none))) else (none)) else (none)) = some (r1, r2) := H
                    have A14 := Aside0.mk A140
                    clear A140
                    by_cases c15 : 20 ≤ 22
                    · rw [if_pos c15] at H
                      have c15b0 := eq_true c15
                      have c15b1 : decide (20 ≤ 22) = true := decide_eq_true c15
                      clear c15
                      by_cases c16 : 22 ≤ (a0.size : Int)
                      · rw [if_pos c16] at H
                        have c16b0 := eq_true c16
                        have c16b1 : decide (22 ≤ (a0.size : Int)) = true := decide_eq_true c16
                        clear c16
                        replace H := Option.bind_eq_some_iff.mp H
                        obtain ⟨t110, A170, H⟩ := H
                        replace H : (if 23 ≤ 25 then (if 25 ≤ (a0.size : Int) then ((date_digits.f k (a0.extract 23 25)).bind fun t111 => (if t106 < 0 then (date_Read.j0 k a0 t106 t107 t108 t109 t110 t111 true) else (if (Int.tmod t106 3) = 0 then (if t108 < 1 then (date_Read.j0 k a0 t106 t107 t108 t109 t110 t111 true) else ((date_Days.f k t107 (wrap64 ((wrap64 (Int.tdiv t106 3)) + 1))).bind fun t112 => (if t108 > t112 then (date_Read.j0 k a0 t106 t107 t108 t109 t110 t111 true) else (if t109 < 0 then (date_Read.j0 k a0 t106 t107 t108 t109 t110 t111 true) else (if t109 > 23 then (date_Read.j0 k a0 t106 t107 t108 t109 t110 t111 true) else (if t110 < 0 then (date_Read.j0 k a0 t106 t107 t108 t109 t110 t111 true) else (if t110 > 59 then (date_Read.j0 k a0 t106 t107 t108 t109 t110 t111 true) else (if t111 < 0 then (date_Read.j0 k a0 t106 t107 t108 t109 t110 t111 true) else (date_Read.j0 k a0 t106 t107 t108 t109 t110 t111 (decide (t111 > 59))))))))))) else (date_Read.j0 k a0 t106 t107 t108 t109 t110 t111 true)))) else (none)) else (none)) = some (r1, r2) := H
                        have A17 := Aside0.mk A170
                        clear A170
                        by_cases c18 : 23 ≤ 25
                        · rw [if_pos c18] at H
                          have c18b0 := eq_true c18
                          have c18b1 : decide (23 ≤ 25) = true := decide_eq_true c18
                          clear c18
                          by_cases c19 : 25 ≤ (a0.size : Int)
                          · rw [if_pos c19] at H
                            have c19b0 := eq_true c19
                            have c19b1 : decide (25 ≤ (a0.size : Int)) = true := decide_eq_true c19
                            clear c19
                            replace H := Option.bind_eq_some_iff.mp H
                            obtain ⟨t111, A200, H⟩ := H
                            replace H : (if t106 < 0 then (date_Read.j0 k a0 t106 t107 t108 t109 t110 t111 true) else (if (Int.tmod t106 3) = 0 then (if t108 < 1 then (date_Read.j0 k a0 t106 t107 t108 t109 t110 t111 true) else ((date_Days.f k t107 (wrap64 ((wrap64 (Int.tdiv t106 3)) + 1))).bind fun t112 => (if t108 > t112 then (date_Read.j0 k a0 t106 t107 t108 t109 t110 t111 true) else (if t109 < 0 then (date_Read.j0 k a0 t106 t107 t108 t109 t110 t111 true) else (if t109 > 23 then (date_Read.j0 k a0 t106 t107 t108 t109 t110 t111 true) else (if t110 < 0 then (date_Read.j0 k a0 t106 t107 t108 t109 t110 t111 true) else (if t110 > 59 then (date_Read.j0 k a0 t106 t107 t108 t109 t110 t111 true) else (if t111 < 0 then (date_Read.j0 k a0 t106 t107 t108 t109 t110 t111 true) else (date_Read.j0 k a0 t106 t107 t108 t109 t110 t111 (decide (t111 > 59))))))))))) else (date_Read.j0 k a0 t106 t107 t108 t109 t110 t111 true))) = some (r1, r2) := H
                            have A20 := Aside0.mk A200
                            clear A200
                            have HC21 := Aside0.mk H
                            clear H
                            go_enter Try.func15, Try.ntmps15
                            go_upto_region 6 with (first | (go_at_call 22; (with_reducible refine (strings_Index.calls (⟨#[74, 97, 110, 70, 101, 98, 77, 97, 114, 65, 112, 114, 77, 97, 121, 74, 117, 110, 74, 117, 108, 65, 117, 103, 83, 101, 112, 79, 99, 116, 78, 111, 118, 68, 101, 99]⟩ : ByteArray) (a0.extract 8 11) t106 _ ?side1 A5.out).mono ?_); (case side1 => repeat (first | exact HRW.out | (with_reducible refine Kd.C_alloc ?_ _) | (with_reducible refine Kd.C_drewN ?_ _) | (with_reducible refine Kd.C_drew ?_))); rintro e w' ⟨rfl, ⟨nd, rfl⟩⟩; (try first | exact ⟨rfl, _, World.drewN_drewN _ _ _⟩ | exact ⟨rfl, _, Eq.trans (World.drewN_drewN _ _ _) (congrArg (World.drewN _) (Nat.add_assoc _ _ _))⟩)) | (go_at_call 23; (with_reducible refine (date_digits.calls k (a0.extract 12 16) t107 _ A8.out).mono ?_); rintro e w' ⟨rfl, ⟨nd, rfl⟩⟩; (try first | exact ⟨rfl, _, World.drewN_drewN _ _ _⟩ | exact ⟨rfl, _, Eq.trans (World.drewN_drewN _ _ _) (congrArg (World.drewN _) (Nat.add_assoc _ _ _))⟩)) | (go_at_call 23; (with_reducible refine (date_digits.calls k (a0.extract 5 7) t108 _ A11.out).mono ?_); rintro e w' ⟨rfl, ⟨nd, rfl⟩⟩; (try first | exact ⟨rfl, _, World.drewN_drewN _ _ _⟩ | exact ⟨rfl, _, Eq.trans (World.drewN_drewN _ _ _) (congrArg (World.drewN _) (Nat.add_assoc _ _ _))⟩)) | (go_at_call 23; (with_reducible refine (date_digits.calls k (a0.extract 17 19) t109 _ A14.out).mono ?_); rintro e w' ⟨rfl, ⟨nd, rfl⟩⟩; (try first | exact ⟨rfl, _, World.drewN_drewN _ _ _⟩ | exact ⟨rfl, _, Eq.trans (World.drewN_drewN _ _ _) (congrArg (World.drewN _) (Nat.add_assoc _ _ _))⟩)) | (go_at_call 23; (with_reducible refine (date_digits.calls k (a0.extract 20 22) t110 _ A17.out).mono ?_); rintro e w' ⟨rfl, ⟨nd, rfl⟩⟩; (try first | exact ⟨rfl, _, World.drewN_drewN _ _ _⟩ | exact ⟨rfl, _, Eq.trans (World.drewN_drewN _ _ _) (congrArg (World.drewN _) (Nat.add_assoc _ _ _))⟩)) | (go_at_call 23; (with_reducible refine (date_digits.calls k (a0.extract 23 25) t111 _ A20.out).mono ?_); rintro e w' ⟨rfl, ⟨nd, rfl⟩⟩; (try first | exact ⟨rfl, _, World.drewN_drewN _ _ _⟩ | exact ⟨rfl, _, Eq.trans (World.drewN_drewN _ _ _) (congrArg (World.drewN _) (Nat.add_assoc _ _ _))⟩)))
                            repeat (go_quiet (first | (go_at_call 22; (with_reducible refine (strings_Index.calls (⟨#[74, 97, 110, 70, 101, 98, 77, 97, 114, 65, 112, 114, 77, 97, 121, 74, 117, 110, 74, 117, 108, 65, 117, 103, 83, 101, 112, 79, 99, 116, 78, 111, 118, 68, 101, 99]⟩ : ByteArray) (a0.extract 8 11) t106 _ ?side1 A5.out).mono ?_); (case side1 => repeat (first | exact HRW.out | (with_reducible refine Kd.C_alloc ?_ _) | (with_reducible refine Kd.C_drewN ?_ _) | (with_reducible refine Kd.C_drew ?_))); rintro e w' ⟨rfl, ⟨nd, rfl⟩⟩; (try first | exact ⟨rfl, _, World.drewN_drewN _ _ _⟩ | exact ⟨rfl, _, Eq.trans (World.drewN_drewN _ _ _) (congrArg (World.drewN _) (Nat.add_assoc _ _ _))⟩)) | (go_at_call 23; (with_reducible refine (date_digits.calls k (a0.extract 12 16) t107 _ A8.out).mono ?_); rintro e w' ⟨rfl, ⟨nd, rfl⟩⟩; (try first | exact ⟨rfl, _, World.drewN_drewN _ _ _⟩ | exact ⟨rfl, _, Eq.trans (World.drewN_drewN _ _ _) (congrArg (World.drewN _) (Nat.add_assoc _ _ _))⟩)) | (go_at_call 23; (with_reducible refine (date_digits.calls k (a0.extract 5 7) t108 _ A11.out).mono ?_); rintro e w' ⟨rfl, ⟨nd, rfl⟩⟩; (try first | exact ⟨rfl, _, World.drewN_drewN _ _ _⟩ | exact ⟨rfl, _, Eq.trans (World.drewN_drewN _ _ _) (congrArg (World.drewN _) (Nat.add_assoc _ _ _))⟩)) | (go_at_call 23; (with_reducible refine (date_digits.calls k (a0.extract 17 19) t109 _ A14.out).mono ?_); rintro e w' ⟨rfl, ⟨nd, rfl⟩⟩; (try first | exact ⟨rfl, _, World.drewN_drewN _ _ _⟩ | exact ⟨rfl, _, Eq.trans (World.drewN_drewN _ _ _) (congrArg (World.drewN _) (Nat.add_assoc _ _ _))⟩)) | (go_at_call 23; (with_reducible refine (date_digits.calls k (a0.extract 20 22) t110 _ A17.out).mono ?_); rintro e w' ⟨rfl, ⟨nd, rfl⟩⟩; (try first | exact ⟨rfl, _, World.drewN_drewN _ _ _⟩ | exact ⟨rfl, _, Eq.trans (World.drewN_drewN _ _ _) (congrArg (World.drewN _) (Nat.add_assoc _ _ _))⟩)) | (go_at_call 23; (with_reducible refine (date_digits.calls k (a0.extract 23 25) t111 _ A20.out).mono ?_); rintro e w' ⟨rfl, ⟨nd, rfl⟩⟩; (try first | exact ⟨rfl, _, World.drewN_drewN _ _ _⟩ | exact ⟨rfl, _, Eq.trans (World.drewN_drewN _ _ _) (congrArg (World.drewN _) (Nat.add_assoc _ _ _))⟩))); go_upto_region 6 with (first | (go_at_call 22; (with_reducible refine (strings_Index.calls (⟨#[74, 97, 110, 70, 101, 98, 77, 97, 114, 65, 112, 114, 77, 97, 121, 74, 117, 110, 74, 117, 108, 65, 117, 103, 83, 101, 112, 79, 99, 116, 78, 111, 118, 68, 101, 99]⟩ : ByteArray) (a0.extract 8 11) t106 _ ?side1 A5.out).mono ?_); (case side1 => repeat (first | exact HRW.out | (with_reducible refine Kd.C_alloc ?_ _) | (with_reducible refine Kd.C_drewN ?_ _) | (with_reducible refine Kd.C_drew ?_))); rintro e w' ⟨rfl, ⟨nd, rfl⟩⟩; (try first | exact ⟨rfl, _, World.drewN_drewN _ _ _⟩ | exact ⟨rfl, _, Eq.trans (World.drewN_drewN _ _ _) (congrArg (World.drewN _) (Nat.add_assoc _ _ _))⟩)) | (go_at_call 23; (with_reducible refine (date_digits.calls k (a0.extract 12 16) t107 _ A8.out).mono ?_); rintro e w' ⟨rfl, ⟨nd, rfl⟩⟩; (try first | exact ⟨rfl, _, World.drewN_drewN _ _ _⟩ | exact ⟨rfl, _, Eq.trans (World.drewN_drewN _ _ _) (congrArg (World.drewN _) (Nat.add_assoc _ _ _))⟩)) | (go_at_call 23; (with_reducible refine (date_digits.calls k (a0.extract 5 7) t108 _ A11.out).mono ?_); rintro e w' ⟨rfl, ⟨nd, rfl⟩⟩; (try first | exact ⟨rfl, _, World.drewN_drewN _ _ _⟩ | exact ⟨rfl, _, Eq.trans (World.drewN_drewN _ _ _) (congrArg (World.drewN _) (Nat.add_assoc _ _ _))⟩)) | (go_at_call 23; (with_reducible refine (date_digits.calls k (a0.extract 17 19) t109 _ A14.out).mono ?_); rintro e w' ⟨rfl, ⟨nd, rfl⟩⟩; (try first | exact ⟨rfl, _, World.drewN_drewN _ _ _⟩ | exact ⟨rfl, _, Eq.trans (World.drewN_drewN _ _ _) (congrArg (World.drewN _) (Nat.add_assoc _ _ _))⟩)) | (go_at_call 23; (with_reducible refine (date_digits.calls k (a0.extract 20 22) t110 _ A17.out).mono ?_); rintro e w' ⟨rfl, ⟨nd, rfl⟩⟩; (try first | exact ⟨rfl, _, World.drewN_drewN _ _ _⟩ | exact ⟨rfl, _, Eq.trans (World.drewN_drewN _ _ _) (congrArg (World.drewN _) (Nat.add_assoc _ _ _))⟩)) | (go_at_call 23; (with_reducible refine (date_digits.calls k (a0.extract 23 25) t111 _ A20.out).mono ?_); rintro e w' ⟨rfl, ⟨nd, rfl⟩⟩; (try first | exact ⟨rfl, _, World.drewN_drewN _ _ _⟩ | exact ⟨rfl, _, Eq.trans (World.drewN_drewN _ _ _) (congrArg (World.drewN _) (Nat.add_assoc _ _ _))⟩))))
                            (try simp only [Act.put, List.setIfInBounds_toArray, List.set_cons_zero, List.set_cons_succ])
                            go_cut [79] (fun v79 wc => ∃ (kq : Nat) (x79_20 : Bool), v79 = .bool x79_20 ∧ Aside0 (date_Read.j0 kq a0 t106 t107 t108 t109 t110 t111 x79_20 = some (r1, r2)) ∧ Aside0 (kq ≤ k) ∧ Aside0 (Below w.heap.size w wc))
                            case first =>
                              have H := HC21.out
                              clear HC21
                              by_cases c22 : t106 < 0
                              · rw [if_pos c22] at H
                                have c22b0 : decide (t106 < 0) = true := decide_eq_true c22
                                clear c22
                                (first | rw [c22b0] | (simp only [i64_w, i32_w]; rw [c22b0]) | skip)
                                have H' := Aside0.mk H
                                clear H
                                go_wp2
                                repeat (go_quiet (fail); try go_wp2)
                                go_meet
                                case rel => exact ⟨_, (true), (by first | rfl | (simp; done) | (simp [*]; done)), H', ⟨by first | omega | exact Nat.le_refl _⟩, ⟨by repeat (first | (with_reducible first | exact HB.out | apply below_alloc | apply pw_below_drewN | apply below_drew1) | exact HB.out)⟩⟩
                              · rw [if_neg c22] at H
                                have c22b0 : decide (t106 < 0) = false := decide_eq_false c22
                                clear c22
                                (first | rw [c22b0] | (simp only [i64_w, i32_w]; rw [c22b0]) | skip)
                                by_cases c23 : (Int.tmod t106 3) = 0
                                · rw [if_pos c23] at H
                                  have c23b0 : ((Int.tmod t106 3) == 0) = true := beq_iff_eq.mpr c23
                                  have c23b1 : ((Int.tmod t106 3) != 0) = false := bne_eq_false_iff_eq.mpr c23
                                  clear c23
                                  by_cases c24 : t108 < 1
                                  · rw [if_pos c24] at H
                                    have c24b0 : decide (t108 < 1) = true := decide_eq_true c24
                                    clear c24
                                    have H' := Aside0.mk H
                                    clear H
                                    go_wp2
                                    repeat (go_quiet (fail); try go_wp2)
                                    go_meet
                                    case rel => exact ⟨_, (true), (by first | rfl | (simp; done) | (simp [*]; done)), H', ⟨by first | omega | exact Nat.le_refl _⟩, ⟨by repeat (first | (with_reducible first | exact HB.out | apply below_alloc | apply pw_below_drewN | apply below_drew1) | exact HB.out)⟩⟩
                                  · rw [if_neg c24] at H
                                    have c24b0 : decide (t108 < 1) = false := decide_eq_false c24
                                    clear c24
                                    replace H := Option.bind_eq_some_iff.mp H
                                    obtain ⟨t112, A250, H⟩ := H
                                    replace H : (if t108 > t112 then (date_Read.j0 k a0 t106 t107 t108 t109 t110 t111 true) else (if t109 < 0 then (date_Read.j0 k a0 t106 t107 t108 t109 t110 t111 true) else (if t109 > 23 then (date_Read.j0 k a0 t106 t107 t108 t109 t110 t111 true) else (if t110 < 0 then (date_Read.j0 k a0 t106 t107 t108 t109 t110 t111 true) else (if t110 > 59 then (date_Read.j0 k a0 t106 t107 t108 t109 t110 t111 true) else (if t111 < 0 then (date_Read.j0 k a0 t106 t107 t108 t109 t110 t111 true) else (date_Read.j0 k a0 t106 t107 t108 t109 t110 t111 (decide (t111 > 59))))))))) = some (r1, r2) := H
                                    have A25 := Aside0.mk A250
                                    clear A250
                                    by_cases c26 : t108 > t112
                                    · rw [if_pos c26] at H
                                      have c26b0 : decide (t112 < t108) = true := decide_eq_true c26
                                      clear c26
                                      have H' := Aside0.mk H
                                      clear H
                                      go_wp2_with (first | (go_at_call 16; (with_reducible refine (date_Days.calls k t107 (wrap64 ((wrap64 (Int.tdiv t106 3)) + 1)) t112 _ A25.out).mono ?_); rintro e w' ⟨rfl, ⟨nd, rfl⟩⟩; (try first | exact ⟨rfl, _, World.drewN_drewN _ _ _⟩ | exact ⟨rfl, _, Eq.trans (World.drewN_drewN _ _ _) (congrArg (World.drewN _) (Nat.add_assoc _ _ _))⟩)))
                                      repeat (go_quiet (first | (go_at_call 16; (with_reducible refine (date_Days.calls k t107 (wrap64 ((wrap64 (Int.tdiv t106 3)) + 1)) t112 _ A25.out).mono ?_); rintro e w' ⟨rfl, ⟨nd, rfl⟩⟩; (try first | exact ⟨rfl, _, World.drewN_drewN _ _ _⟩ | exact ⟨rfl, _, Eq.trans (World.drewN_drewN _ _ _) (congrArg (World.drewN _) (Nat.add_assoc _ _ _))⟩))); try go_wp2_with (first | (go_at_call 16; (with_reducible refine (date_Days.calls k t107 (wrap64 ((wrap64 (Int.tdiv t106 3)) + 1)) t112 _ A25.out).mono ?_); rintro e w' ⟨rfl, ⟨nd, rfl⟩⟩; (try first | exact ⟨rfl, _, World.drewN_drewN _ _ _⟩ | exact ⟨rfl, _, Eq.trans (World.drewN_drewN _ _ _) (congrArg (World.drewN _) (Nat.add_assoc _ _ _))⟩))))
                                      go_meet
                                      case rel => exact ⟨_, (true), (by first | rfl | (simp; done) | (simp [*]; done)), H', ⟨by first | omega | exact Nat.le_refl _⟩, ⟨by repeat (first | (with_reducible first | exact HB.out | apply below_alloc | apply pw_below_drewN | apply below_drew1) | exact HB.out)⟩⟩
                                    · rw [if_neg c26] at H
                                      have c26b0 : decide (t112 < t108) = false := decide_eq_false c26
                                      clear c26
                                      by_cases c27 : t109 < 0
                                      · rw [if_pos c27] at H
                                        have c27b0 : decide (t109 < 0) = true := decide_eq_true c27
                                        clear c27
                                        have H' := Aside0.mk H
                                        clear H
                                        go_wp2_with (first | (go_at_call 16; (with_reducible refine (date_Days.calls k t107 (wrap64 ((wrap64 (Int.tdiv t106 3)) + 1)) t112 _ A25.out).mono ?_); rintro e w' ⟨rfl, ⟨nd, rfl⟩⟩; (try first | exact ⟨rfl, _, World.drewN_drewN _ _ _⟩ | exact ⟨rfl, _, Eq.trans (World.drewN_drewN _ _ _) (congrArg (World.drewN _) (Nat.add_assoc _ _ _))⟩)))
                                        repeat (go_quiet (first | (go_at_call 16; (with_reducible refine (date_Days.calls k t107 (wrap64 ((wrap64 (Int.tdiv t106 3)) + 1)) t112 _ A25.out).mono ?_); rintro e w' ⟨rfl, ⟨nd, rfl⟩⟩; (try first | exact ⟨rfl, _, World.drewN_drewN _ _ _⟩ | exact ⟨rfl, _, Eq.trans (World.drewN_drewN _ _ _) (congrArg (World.drewN _) (Nat.add_assoc _ _ _))⟩))); try go_wp2_with (first | (go_at_call 16; (with_reducible refine (date_Days.calls k t107 (wrap64 ((wrap64 (Int.tdiv t106 3)) + 1)) t112 _ A25.out).mono ?_); rintro e w' ⟨rfl, ⟨nd, rfl⟩⟩; (try first | exact ⟨rfl, _, World.drewN_drewN _ _ _⟩ | exact ⟨rfl, _, Eq.trans (World.drewN_drewN _ _ _) (congrArg (World.drewN _) (Nat.add_assoc _ _ _))⟩))))
                                        go_meet
                                        case rel => exact ⟨_, (true), (by first | rfl | (simp; done) | (simp [*]; done)), H', ⟨by first | omega | exact Nat.le_refl _⟩, ⟨by repeat (first | (with_reducible first | exact HB.out | apply below_alloc | apply pw_below_drewN | apply below_drew1) | exact HB.out)⟩⟩
                                      · rw [if_neg c27] at H
                                        have c27b0 : decide (t109 < 0) = false := decide_eq_false c27
                                        clear c27
                                        by_cases c28 : t109 > 23
                                        · rw [if_pos c28] at H
                                          have c28b0 : decide (23 < t109) = true := decide_eq_true c28
                                          clear c28
                                          have H' := Aside0.mk H
                                          clear H
                                          go_wp2_with (first | (go_at_call 16; (with_reducible refine (date_Days.calls k t107 (wrap64 ((wrap64 (Int.tdiv t106 3)) + 1)) t112 _ A25.out).mono ?_); rintro e w' ⟨rfl, ⟨nd, rfl⟩⟩; (try first | exact ⟨rfl, _, World.drewN_drewN _ _ _⟩ | exact ⟨rfl, _, Eq.trans (World.drewN_drewN _ _ _) (congrArg (World.drewN _) (Nat.add_assoc _ _ _))⟩)))
                                          repeat (go_quiet (first | (go_at_call 16; (with_reducible refine (date_Days.calls k t107 (wrap64 ((wrap64 (Int.tdiv t106 3)) + 1)) t112 _ A25.out).mono ?_); rintro e w' ⟨rfl, ⟨nd, rfl⟩⟩; (try first | exact ⟨rfl, _, World.drewN_drewN _ _ _⟩ | exact ⟨rfl, _, Eq.trans (World.drewN_drewN _ _ _) (congrArg (World.drewN _) (Nat.add_assoc _ _ _))⟩))); try go_wp2_with (first | (go_at_call 16; (with_reducible refine (date_Days.calls k t107 (wrap64 ((wrap64 (Int.tdiv t106 3)) + 1)) t112 _ A25.out).mono ?_); rintro e w' ⟨rfl, ⟨nd, rfl⟩⟩; (try first | exact ⟨rfl, _, World.drewN_drewN _ _ _⟩ | exact ⟨rfl, _, Eq.trans (World.drewN_drewN _ _ _) (congrArg (World.drewN _) (Nat.add_assoc _ _ _))⟩))))
                                          go_meet
                                          case rel => exact ⟨_, (true), (by first | rfl | (simp; done) | (simp [*]; done)), H', ⟨by first | omega | exact Nat.le_refl _⟩, ⟨by repeat (first | (with_reducible first | exact HB.out | apply below_alloc | apply pw_below_drewN | apply below_drew1) | exact HB.out)⟩⟩
                                        · rw [if_neg c28] at H
                                          have c28b0 : decide (23 < t109) = false := decide_eq_false c28
                                          clear c28
                                          by_cases c29 : t110 < 0
                                          · rw [if_pos c29] at H
                                            have c29b0 : decide (t110 < 0) = true := decide_eq_true c29
                                            clear c29
                                            have H' := Aside0.mk H
                                            clear H
                                            go_wp2_with (first | (go_at_call 16; (with_reducible refine (date_Days.calls k t107 (wrap64 ((wrap64 (Int.tdiv t106 3)) + 1)) t112 _ A25.out).mono ?_); rintro e w' ⟨rfl, ⟨nd, rfl⟩⟩; (try first | exact ⟨rfl, _, World.drewN_drewN _ _ _⟩ | exact ⟨rfl, _, Eq.trans (World.drewN_drewN _ _ _) (congrArg (World.drewN _) (Nat.add_assoc _ _ _))⟩)))
                                            repeat (go_quiet (first | (go_at_call 16; (with_reducible refine (date_Days.calls k t107 (wrap64 ((wrap64 (Int.tdiv t106 3)) + 1)) t112 _ A25.out).mono ?_); rintro e w' ⟨rfl, ⟨nd, rfl⟩⟩; (try first | exact ⟨rfl, _, World.drewN_drewN _ _ _⟩ | exact ⟨rfl, _, Eq.trans (World.drewN_drewN _ _ _) (congrArg (World.drewN _) (Nat.add_assoc _ _ _))⟩))); try go_wp2_with (first | (go_at_call 16; (with_reducible refine (date_Days.calls k t107 (wrap64 ((wrap64 (Int.tdiv t106 3)) + 1)) t112 _ A25.out).mono ?_); rintro e w' ⟨rfl, ⟨nd, rfl⟩⟩; (try first | exact ⟨rfl, _, World.drewN_drewN _ _ _⟩ | exact ⟨rfl, _, Eq.trans (World.drewN_drewN _ _ _) (congrArg (World.drewN _) (Nat.add_assoc _ _ _))⟩))))
                                            go_meet
                                            case rel => exact ⟨_, (true), (by first | rfl | (simp; done) | (simp [*]; done)), H', ⟨by first | omega | exact Nat.le_refl _⟩, ⟨by repeat (first | (with_reducible first | exact HB.out | apply below_alloc | apply pw_below_drewN | apply below_drew1) | exact HB.out)⟩⟩
                                          · rw [if_neg c29] at H
                                            have c29b0 : decide (t110 < 0) = false := decide_eq_false c29
                                            clear c29
                                            by_cases c30 : t110 > 59
                                            · rw [if_pos c30] at H
                                              have c30b0 : decide (59 < t110) = true := decide_eq_true c30
                                              clear c30
                                              have H' := Aside0.mk H
                                              clear H
                                              go_wp2_with (first | (go_at_call 16; (with_reducible refine (date_Days.calls k t107 (wrap64 ((wrap64 (Int.tdiv t106 3)) + 1)) t112 _ A25.out).mono ?_); rintro e w' ⟨rfl, ⟨nd, rfl⟩⟩; (try first | exact ⟨rfl, _, World.drewN_drewN _ _ _⟩ | exact ⟨rfl, _, Eq.trans (World.drewN_drewN _ _ _) (congrArg (World.drewN _) (Nat.add_assoc _ _ _))⟩)))
                                              repeat (go_quiet (first | (go_at_call 16; (with_reducible refine (date_Days.calls k t107 (wrap64 ((wrap64 (Int.tdiv t106 3)) + 1)) t112 _ A25.out).mono ?_); rintro e w' ⟨rfl, ⟨nd, rfl⟩⟩; (try first | exact ⟨rfl, _, World.drewN_drewN _ _ _⟩ | exact ⟨rfl, _, Eq.trans (World.drewN_drewN _ _ _) (congrArg (World.drewN _) (Nat.add_assoc _ _ _))⟩))); try go_wp2_with (first | (go_at_call 16; (with_reducible refine (date_Days.calls k t107 (wrap64 ((wrap64 (Int.tdiv t106 3)) + 1)) t112 _ A25.out).mono ?_); rintro e w' ⟨rfl, ⟨nd, rfl⟩⟩; (try first | exact ⟨rfl, _, World.drewN_drewN _ _ _⟩ | exact ⟨rfl, _, Eq.trans (World.drewN_drewN _ _ _) (congrArg (World.drewN _) (Nat.add_assoc _ _ _))⟩))))
                                              go_meet
                                              case rel => exact ⟨_, (true), (by first | rfl | (simp; done) | (simp [*]; done)), H', ⟨by first | omega | exact Nat.le_refl _⟩, ⟨by repeat (first | (with_reducible first | exact HB.out | apply below_alloc | apply pw_below_drewN | apply below_drew1) | exact HB.out)⟩⟩
                                            · rw [if_neg c30] at H
                                              have c30b0 : decide (59 < t110) = false := decide_eq_false c30
                                              clear c30
                                              by_cases c31 : t111 < 0
                                              · rw [if_pos c31] at H
                                                have c31b0 : decide (t111 < 0) = true := decide_eq_true c31
                                                clear c31
                                                have H' := Aside0.mk H
                                                clear H
                                                go_wp2_with (first | (go_at_call 16; (with_reducible refine (date_Days.calls k t107 (wrap64 ((wrap64 (Int.tdiv t106 3)) + 1)) t112 _ A25.out).mono ?_); rintro e w' ⟨rfl, ⟨nd, rfl⟩⟩; (try first | exact ⟨rfl, _, World.drewN_drewN _ _ _⟩ | exact ⟨rfl, _, Eq.trans (World.drewN_drewN _ _ _) (congrArg (World.drewN _) (Nat.add_assoc _ _ _))⟩)))
                                                repeat (go_quiet (first | (go_at_call 16; (with_reducible refine (date_Days.calls k t107 (wrap64 ((wrap64 (Int.tdiv t106 3)) + 1)) t112 _ A25.out).mono ?_); rintro e w' ⟨rfl, ⟨nd, rfl⟩⟩; (try first | exact ⟨rfl, _, World.drewN_drewN _ _ _⟩ | exact ⟨rfl, _, Eq.trans (World.drewN_drewN _ _ _) (congrArg (World.drewN _) (Nat.add_assoc _ _ _))⟩))); try go_wp2_with (first | (go_at_call 16; (with_reducible refine (date_Days.calls k t107 (wrap64 ((wrap64 (Int.tdiv t106 3)) + 1)) t112 _ A25.out).mono ?_); rintro e w' ⟨rfl, ⟨nd, rfl⟩⟩; (try first | exact ⟨rfl, _, World.drewN_drewN _ _ _⟩ | exact ⟨rfl, _, Eq.trans (World.drewN_drewN _ _ _) (congrArg (World.drewN _) (Nat.add_assoc _ _ _))⟩))))
                                                go_meet
                                                case rel => exact ⟨_, (true), (by first | rfl | (simp; done) | (simp [*]; done)), H', ⟨by first | omega | exact Nat.le_refl _⟩, ⟨by repeat (first | (with_reducible first | exact HB.out | apply below_alloc | apply pw_below_drewN | apply below_drew1) | exact HB.out)⟩⟩
                                              · rw [if_neg c31] at H
                                                have c31b0 : decide (t111 < 0) = false := decide_eq_false c31
                                                clear c31
                                                have H' := Aside0.mk H
                                                clear H
                                                go_wp2_with (first | (go_at_call 16; (with_reducible refine (date_Days.calls k t107 (wrap64 ((wrap64 (Int.tdiv t106 3)) + 1)) t112 _ A25.out).mono ?_); rintro e w' ⟨rfl, ⟨nd, rfl⟩⟩; (try first | exact ⟨rfl, _, World.drewN_drewN _ _ _⟩ | exact ⟨rfl, _, Eq.trans (World.drewN_drewN _ _ _) (congrArg (World.drewN _) (Nat.add_assoc _ _ _))⟩)))
                                                repeat (go_quiet (first | (go_at_call 16; (with_reducible refine (date_Days.calls k t107 (wrap64 ((wrap64 (Int.tdiv t106 3)) + 1)) t112 _ A25.out).mono ?_); rintro e w' ⟨rfl, ⟨nd, rfl⟩⟩; (try first | exact ⟨rfl, _, World.drewN_drewN _ _ _⟩ | exact ⟨rfl, _, Eq.trans (World.drewN_drewN _ _ _) (congrArg (World.drewN _) (Nat.add_assoc _ _ _))⟩))); try go_wp2_with (first | (go_at_call 16; (with_reducible refine (date_Days.calls k t107 (wrap64 ((wrap64 (Int.tdiv t106 3)) + 1)) t112 _ A25.out).mono ?_); rintro e w' ⟨rfl, ⟨nd, rfl⟩⟩; (try first | exact ⟨rfl, _, World.drewN_drewN _ _ _⟩ | exact ⟨rfl, _, Eq.trans (World.drewN_drewN _ _ _) (congrArg (World.drewN _) (Nat.add_assoc _ _ _))⟩))))
                                                go_meet
                                                case rel => exact ⟨_, (decide (t111 > 59)), (by first | rfl | (simp; done) | (simp [*]; done)), H', ⟨by first | omega | exact Nat.le_refl _⟩, ⟨by repeat (first | (with_reducible first | exact HB.out | apply below_alloc | apply pw_below_drewN | apply below_drew1) | exact HB.out)⟩⟩
                                · rw [if_neg c23] at H
                                  have c23b0 : ((Int.tmod t106 3) == 0) = false := beq_eq_false_iff_ne.mpr c23
                                  have c23b1 : ((Int.tmod t106 3) != 0) = true := bne_iff_ne.mpr c23
                                  have H' := Aside0.mk H
                                  clear H
                                  go_wp2
                                  repeat (go_quiet (fail); try go_wp2)
                                  go_meet
                                  case rel => exact ⟨_, (true), (by first | rfl | (simp; done) | (simp [*]; done)), H', ⟨by first | omega | exact Nat.le_refl _⟩, ⟨by repeat (first | (with_reducible first | exact HB.out | apply below_alloc | apply pw_below_drewN | apply below_drew1) | exact HB.out)⟩⟩
                            case rest =>
                              clear HC21
                              try clear c1
                              try clear c2
                              try clear c2b0
                              try clear c2b1
                              try clear p2
                              try clear c3
                              try clear c3b0
                              try clear c3b1
                              try clear c4
                              try clear c4b0
                              try clear c4b1
                              try clear c6
                              try clear c6b0
                              try clear c6b1
                              try clear p6
                              try clear c7
                              try clear c7b0
                              try clear c7b1
                              try clear c9
                              try clear c9b0
                              try clear c9b1
                              try clear c10
                              try clear c10b0
                              try clear c10b1
                              try clear c12
                              try clear c12b0
                              try clear c12b1
                              try clear c13
                              try clear c13b0
                              try clear c13b1
                              try clear c15
                              try clear c15b0
                              try clear c15b1
                              try clear c16
                              try clear c16b0
                              try clear c16b1
                              try clear c18
                              try clear c18b0
                              try clear c18b1
                              try clear c19
                              try clear c19b0
                              try clear c19b1
                              try clear c22
                              try clear c22b0
                              try clear c23
                              try clear c23b0
                              try clear c23b1
                              try clear c24
                              try clear c24b0
                              try clear c26
                              try clear c26b0
                              try clear c27
                              try clear c27b0
                              try clear c28
                              try clear c28b0
                              try clear c29
                              try clear c29b0
                              try clear c30
                              try clear c30b0
                              try clear c31
                              try clear c31b0
                              obtain ⟨kq, x79_20, rfl, HA, HJ20, HB⟩ := hcut
                              cases kq with
                              | zero => exact absurd HA.out (by simp [date_Read.j0])
                              | succ kj20 =>
                                have H := HA.out
                                clear HA
                                simp only [date_Read.j0] at H
                                by_cases c32 : x79_20 = true
                                · subst c32
                                  have H1 : (some (0, 14)) = some (r1, r2) := by rw [if_pos rfl] at H; exact H
                                  clear H
                                  have H := H1
                                  clear H1
                                  simp only [Option.some.injEq, Prod.mk.injEq] at H
                                  obtain ⟨rfl, rfl⟩ := H
                                  go_wp2
                                  repeat (go_quiet (fail); try go_wp2)
                                  go_ret2
                                  exact ⟨by first | rfl | (generalize ByteArray.toList _ = l_; cases l_ <;> rfl) | (simp [errW_none, errW_some] <;> rfl) | (simp [*, errW_none, errW_some] <;> rfl), by repeat (first | (with_reducible first | exact HB.out | apply below_alloc | apply pw_below_drewN | apply below_drew1) | exact HB.out)⟩
                                · replace c32 := Bool.eq_false_iff.mpr c32
                                  subst c32
                                  have H1 : ((date_before.f t107).bind fun t113 => (date_Read.l0 kj20 a0 t106 t107 t109 t110 t111 (wrap64 ((wrap64 (t113 + t108)) - 1)) 1)) = some (r1, r2) := by rw [if_neg (show ¬ (false = true) by decide)] at H; exact H
                                  clear H
                                  have H := H1
                                  clear H1
                                  replace H := Option.bind_eq_some_iff.mp H
                                  obtain ⟨t113, A330, H⟩ := H
                                  replace H : (date_Read.l0 kj20 a0 t106 t107 t109 t110 t111 (wrap64 ((wrap64 (t113 + t108)) - 1)) 1) = some (r1, r2) := H
                                  have A33 := Aside0.mk A330
                                  clear A330
                                  have H' := Aside0.mk H
                                  clear H
                                  go_wp2_with (first | (go_at_call 19; (with_reducible refine (date_before.calls t107 t113 _ A33.out).mono ?_); rintro e w' ⟨rfl, ⟨nd, rfl⟩⟩; (try first | exact ⟨rfl, _, World.drewN_drewN _ _ _⟩ | exact ⟨rfl, _, Eq.trans (World.drewN_drewN _ _ _) (congrArg (World.drewN _) (Nat.add_assoc _ _ _))⟩)))
                                  repeat (go_quiet (first | (go_at_call 19; (with_reducible refine (date_before.calls t107 t113 _ A33.out).mono ?_); rintro e w' ⟨rfl, ⟨nd, rfl⟩⟩; (try first | exact ⟨rfl, _, World.drewN_drewN _ _ _⟩ | exact ⟨rfl, _, Eq.trans (World.drewN_drewN _ _ _) (congrArg (World.drewN _) (Nat.add_assoc _ _ _))⟩))); try go_wp2_with (first | (go_at_call 19; (with_reducible refine (date_before.calls t107 t113 _ A33.out).mono ?_); rintro e w' ⟨rfl, ⟨nd, rfl⟩⟩; (try first | exact ⟨rfl, _, World.drewN_drewN _ _ _⟩ | exact ⟨rfl, _, Eq.trans (World.drewN_drewN _ _ _) (congrArg (World.drewN _) (Nat.add_assoc _ _ _))⟩))))
                                  go_loopg [10, 11] kj20 (fun kq v10 v11 w' => ∃ (x10_2 : Int) (x11_2 : Int), v10 = .int .i64 x10_2 ∧ v11 = .int .i64 x11_2 ∧ Aside0 (date_Read.l0 kq a0 t106 t107 t109 t110 t111 x10_2 x11_2 = some (r1, r2)) ∧ Aside0 (kq ≤ kj20) ∧ Aside0 (Below w.heap.size w w'))
                                  case atStart => exact ⟨(wrap64 ((wrap64 (t113 + t108)) - 1)), (1), (by first | rfl | (simp; done) | (simp [*]; done)), (by first | rfl | (simp; done) | (simp [*]; done)), H', ⟨Nat.le_refl _⟩, ⟨by repeat (first | (with_reducible first | exact HB.out | apply below_alloc | apply pw_below_drewN | apply below_drew1) | exact HB.out)⟩⟩
                                  case round =>
                                    clear H'
                                    try clear c1
                                    try clear c2
                                    try clear c2b0
                                    try clear c2b1
                                    try clear p2
                                    try clear c3
                                    try clear c3b0
                                    try clear c3b1
                                    try clear c4
                                    try clear c4b0
                                    try clear c4b1
                                    try clear c6
                                    try clear c6b0
                                    try clear c6b1
                                    try clear p6
                                    try clear c7
                                    try clear c7b0
                                    try clear c7b1
                                    try clear c9
                                    try clear c9b0
                                    try clear c9b1
                                    try clear c10
                                    try clear c10b0
                                    try clear c10b1
                                    try clear c12
                                    try clear c12b0
                                    try clear c12b1
                                    try clear c13
                                    try clear c13b0
                                    try clear c13b1
                                    try clear c15
                                    try clear c15b0
                                    try clear c15b1
                                    try clear c16
                                    try clear c16b0
                                    try clear c16b1
                                    try clear c18
                                    try clear c18b0
                                    try clear c18b1
                                    try clear c19
                                    try clear c19b0
                                    try clear c19b1
                                    try clear c22
                                    try clear c22b0
                                    try clear c23
                                    try clear c23b0
                                    try clear c23b1
                                    try clear c24
                                    try clear c24b0
                                    try clear c26
                                    try clear c26b0
                                    try clear c27
                                    try clear c27b0
                                    try clear c28
                                    try clear c28b0
                                    try clear c29
                                    try clear c29b0
                                    try clear c30
                                    try clear c30b0
                                    try clear c31
                                    try clear c31b0
                                    try clear c32
                                    try clear p2
                                    try clear p6
                                    obtain ⟨x10_2, x11_2, rfl, rfl, HA, HK2, HB⟩ := hrel
                                    cases gk with
                                    | zero => exact absurd HA.out (by simp [date_Read.l0])
                                    | succ k2 =>
                                      have H := HA.out
                                      clear HA
                                      simp only [date_Read.l0] at H
                                      by_cases c34 : x11_2 ≤ (wrap64 (Int.tdiv t106 3))
                                      · rw [if_pos c34] at H
                                        have c34b0 : decide (x11_2 ≤ (wrap64 (Int.tdiv t106 3))) = true := decide_eq_true c34
                                        clear c34
                                        replace H := Option.bind_eq_some_iff.mp H
                                        obtain ⟨t114, A350, H⟩ := H
                                        replace H : (date_Read.l0 k2 a0 t106 t107 t109 t110 t111 (wrap64 (x10_2 + t114)) (wrap64 (x11_2 + 1))) = some (r1, r2) := H
                                        have A35 := Aside0.mk A350
                                        clear A350
                                        have H' := Aside0.mk H
                                        clear H
                                        go_wp2_with (first | (go_at_call 16; (with_reducible refine (date_Days.calls k2 t107 x11_2 t114 _ A35.out).mono ?_); rintro e w' ⟨rfl, ⟨nd, rfl⟩⟩; (try first | exact ⟨rfl, _, World.drewN_drewN _ _ _⟩ | exact ⟨rfl, _, Eq.trans (World.drewN_drewN _ _ _) (congrArg (World.drewN _) (Nat.add_assoc _ _ _))⟩)))
                                        repeat (go_quiet (first | (go_at_call 16; (with_reducible refine (date_Days.calls k2 t107 x11_2 t114 _ A35.out).mono ?_); rintro e w' ⟨rfl, ⟨nd, rfl⟩⟩; (try first | exact ⟨rfl, _, World.drewN_drewN _ _ _⟩ | exact ⟨rfl, _, Eq.trans (World.drewN_drewN _ _ _) (congrArg (World.drewN _) (Nat.add_assoc _ _ _))⟩))); try go_wp2_with (first | (go_at_call 16; (with_reducible refine (date_Days.calls k2 t107 x11_2 t114 _ A35.out).mono ?_); rintro e w' ⟨rfl, ⟨nd, rfl⟩⟩; (try first | exact ⟨rfl, _, World.drewN_drewN _ _ _⟩ | exact ⟨rfl, _, Eq.trans (World.drewN_drewN _ _ _) (congrArg (World.drewN _) (Nat.add_assoc _ _ _))⟩))))
                                        go_roundg k2
                                        case measure => have := HJ20.out; have := HK2.out; omega
                                        case rel => exact ⟨(wrap64 (x10_2 + t114)), (wrap64 (x11_2 + 1)), (by first | rfl | (simp; done) | (simp [*]; done)), (by first | rfl | (simp; done) | (simp [*]; done)), H', ⟨by have := HJ20.out; have := HK2.out; omega⟩, ⟨by repeat (first | (with_reducible first | exact HB.out | apply below_alloc | apply pw_below_drewN | apply below_drew1) | exact HB.out)⟩⟩
                                      · rw [if_neg c34] at H
                                        have c34b0 : decide (x11_2 ≤ (wrap64 (Int.tdiv t106 3))) = false := decide_eq_false c34
                                        clear c34
                                        replace H := Option.bind_eq_some_iff.mp H
                                        obtain ⟨⟨t115, t116⟩, A360, H⟩ := H
                                        replace H : (if t115.toList = a0.toList then (some (wrap64 ((wrap64 ((wrap64 ((wrap64 (x10_2 * 86400)) + (wrap64 (t109 * 3600)))) + (wrap64 (t110 * 60)))) + t111), 0)) else (some (0, 14))) = some (r1, r2) := H
                                        have A36 := Aside0.mk A360
                                        clear A360
                                        by_cases c37 : t115.toList = a0.toList
                                        · rw [if_pos c37] at H
                                          have c37b0 : (t115.toList == a0.toList) = true := beq_iff_eq.mpr c37
                                          have c37b1 : (t115.toList != a0.toList) = false := bne_eq_false_iff_eq.mpr c37
                                          clear c37
                                          simp only [Option.some.injEq, Prod.mk.injEq] at H
                                          obtain ⟨rfl, rfl⟩ := H
                                          go_wp2_with (first | (go_at_call 11; (with_reducible refine (date_Show.calls k2 (wrap64 ((wrap64 ((wrap64 ((wrap64 (x10_2 * 86400)) + (wrap64 (t109 * 3600)))) + (wrap64 (t110 * 60)))) + t111)) t115 t116 _ A36.out).mono ?_); rintro e w38 ⟨rfl, hb⟩; have n0_ := Aside0.mk (below_step (by repeat (first | (with_reducible first | exact HB.out | apply below_alloc | apply pw_below_drewN | apply below_drew1) | exact HB.out)) hb); clear HB; have HB := n0_; clear n0_; (try clear hb); (try clear hb2); (try clear hk); (try clear hi)))
                                          repeat (go_quiet (first | (go_at_call 11; (with_reducible refine (date_Show.calls k2 (wrap64 ((wrap64 ((wrap64 ((wrap64 (x10_2 * 86400)) + (wrap64 (t109 * 3600)))) + (wrap64 (t110 * 60)))) + t111)) t115 t116 _ A36.out).mono ?_); rintro e w38 ⟨rfl, hb⟩; have n0_ := Aside0.mk (below_step (by repeat (first | (with_reducible first | exact HB.out | apply below_alloc | apply pw_below_drewN | apply below_drew1) | exact HB.out)) hb); clear HB; have HB := n0_; clear n0_; (try clear hb); (try clear hb2); (try clear hk); (try clear hi))); try go_wp2_with (first | (go_at_call 11; (with_reducible refine (date_Show.calls k2 (wrap64 ((wrap64 ((wrap64 ((wrap64 (x10_2 * 86400)) + (wrap64 (t109 * 3600)))) + (wrap64 (t110 * 60)))) + t111)) t115 t116 _ A36.out).mono ?_); rintro e w38 ⟨rfl, hb⟩; have n0_ := Aside0.mk (below_step (by repeat (first | (with_reducible first | exact HB.out | apply below_alloc | apply pw_below_drewN | apply below_drew1) | exact HB.out)) hb); clear HB; have HB := n0_; clear n0_; (try clear hb); (try clear hb2); (try clear hk); (try clear hi))))
                                          go_ret2
                                          exact ⟨by first | rfl | (generalize ByteArray.toList _ = l_; cases l_ <;> rfl) | (simp [errW_none, errW_some] <;> rfl) | (simp [*, errW_none, errW_some] <;> rfl), by repeat (first | (with_reducible first | exact HB.out | apply below_alloc | apply pw_below_drewN | apply below_drew1) | exact HB.out)⟩
                                        · rw [if_neg c37] at H
                                          have c37b0 : (t115.toList == a0.toList) = false := beq_eq_false_iff_ne.mpr c37
                                          have c37b1 : (t115.toList != a0.toList) = true := bne_iff_ne.mpr c37
                                          simp only [Option.some.injEq, Prod.mk.injEq] at H
                                          obtain ⟨rfl, rfl⟩ := H
                                          go_wp2_with (first | (go_at_call 11; (with_reducible refine (date_Show.calls k2 (wrap64 ((wrap64 ((wrap64 ((wrap64 (x10_2 * 86400)) + (wrap64 (t109 * 3600)))) + (wrap64 (t110 * 60)))) + t111)) t115 t116 _ A36.out).mono ?_); rintro e w39 ⟨rfl, hb⟩; have n0_ := Aside0.mk (below_step (by repeat (first | (with_reducible first | exact HB.out | apply below_alloc | apply pw_below_drewN | apply below_drew1) | exact HB.out)) hb); clear HB; have HB := n0_; clear n0_; (try clear hb); (try clear hb2); (try clear hk); (try clear hi)))
                                          repeat (go_quiet (first | (go_at_call 11; (with_reducible refine (date_Show.calls k2 (wrap64 ((wrap64 ((wrap64 ((wrap64 (x10_2 * 86400)) + (wrap64 (t109 * 3600)))) + (wrap64 (t110 * 60)))) + t111)) t115 t116 _ A36.out).mono ?_); rintro e w39 ⟨rfl, hb⟩; have n0_ := Aside0.mk (below_step (by repeat (first | (with_reducible first | exact HB.out | apply below_alloc | apply pw_below_drewN | apply below_drew1) | exact HB.out)) hb); clear HB; have HB := n0_; clear n0_; (try clear hb); (try clear hb2); (try clear hk); (try clear hi))); try go_wp2_with (first | (go_at_call 11; (with_reducible refine (date_Show.calls k2 (wrap64 ((wrap64 ((wrap64 ((wrap64 (x10_2 * 86400)) + (wrap64 (t109 * 3600)))) + (wrap64 (t110 * 60)))) + t111)) t115 t116 _ A36.out).mono ?_); rintro e w39 ⟨rfl, hb⟩; have n0_ := Aside0.mk (below_step (by repeat (first | (with_reducible first | exact HB.out | apply below_alloc | apply pw_below_drewN | apply below_drew1) | exact HB.out)) hb); clear HB; have HB := n0_; clear n0_; (try clear hb); (try clear hb2); (try clear hk); (try clear hi))))
                                          go_ret2
                                          exact ⟨by first | rfl | (generalize ByteArray.toList _ = l_; cases l_ <;> rfl) | (simp [errW_none, errW_some] <;> rfl) | (simp [*, errW_none, errW_some] <;> rfl), by repeat (first | (with_reducible first | exact HB.out | apply below_alloc | apply pw_below_drewN | apply below_drew1) | exact HB.out)⟩
                          · rw [if_neg c19] at H
                            exact absurd H (by simp)
                        · rw [if_neg c18] at H
                          exact absurd H (by simp)
                      · rw [if_neg c16] at H
                        exact absurd H (by simp)
                    · rw [if_neg c15] at H
                      exact absurd H (by simp)
                  · rw [if_neg c13] at H
                    exact absurd H (by simp)
                · rw [if_neg c12] at H
                  exact absurd H (by simp)
              · rw [if_neg c10] at H
                exact absurd H (by simp)
            · rw [if_neg c9] at H
              exact absurd H (by simp)
          · rw [if_neg c7] at H
            exact absurd H (by simp)
        · rw [if_neg c6] at H
          exact absurd H (by simp)
      · rw [if_neg c4] at H
        exact absurd H (by simp)
    · rw [if_neg c3] at H
      exact absurd H (by simp)
  · rw [if_neg c2] at H
    have c2b0 : ((a0.size : Int) == 29) = false := beq_eq_false_iff_ne.mpr c2
    have c2b1 : ((a0.size : Int) != 29) = true := bne_iff_ne.mpr c2
    simp only [Option.some.injEq, Prod.mk.injEq] at H
    obtain ⟨rfl, rfl⟩ := H
    go_enter Try.func15, Try.ntmps15
    go_wp2
    repeat (go_quiet (fail); try go_wp2)
    go_ret2
    exact ⟨by first | rfl | (generalize ByteArray.toList _ = l_; cases l_ <;> rfl) | (simp [errW_none, errW_some] <;> rfl) | (simp [*, errW_none, errW_some] <;> rfl), by repeat (first | (with_reducible first | exact HB.out | apply below_alloc | apply pw_below_drewN | apply below_drew1) | exact HB.out)⟩

/-! ### pantrylaw02_anchor: function 10 -/
def pantrylaw02_anchor.f (k : Nat)  : Option (Bool) := (date_Show.f k 784111777).bind fun bt117 => ((date_Read.f k (⟨#[83, 117, 110, 44, 32, 48, 54, 32, 78, 111, 118, 32, 49, 57, 57, 52, 32, 48, 56, 58, 52, 57, 58, 51, 55, 32, 71, 77, 84]⟩ : ByteArray)).bind fun bt119 => (if bt117.2 = 0 then (if bt117.1.toList = ([83, 117, 110, 44, 32, 48, 54, 32, 78, 111, 118, 32, 49, 57, 57, 52, 32, 48, 56, 58, 52, 57, 58, 51, 55, 32, 71, 77, 84] : List UInt8) then (if bt119.2 = 0 then (some (bt119.1 == 784111777)) else (some false)) else (some false)) else (some false)))
theorem pantrylaw02_anchor.mono : ∀ k, LeO (pantrylaw02_anchor.f k ) (pantrylaw02_anchor.f (k + 1) ) := by
  intro  k
  unfold pantrylaw02_anchor.f
  repeat' first
      | (with_reducible exact date_Read.mono _ _)
      | (with_reducible exact date_Show.mono _ _)
      | (with_reducible exact LeO.refl _)
      | (with_reducible exact LeO.none _)
      | (with_reducible refine LeO.ite ?_ ?_)
      | (with_reducible refine LeO.bind ?_ (fun _ => ?_))
      | exact date_Read.mono _ _
      | exact date_Show.mono _ _
      | exact LeO.none _
      | refine LeO.ite ?_ ?_
      | refine LeO.bind ?_ (fun _ => ?_)
set_option maxHeartbeats 8000000 in
set_option maxRecDepth 100000 in
theorem pantrylaw02_anchor.calls (k : Nat)  (r : Bool) (w : World) (hrW : WF w) (h : pantrylaw02_anchor.f k  = some r) :
    Calls Try.prog 10 #[] w fun e w' => e = .returned (.bool r) ∧ Below w.heap.size w w' := by
  have HRW := Aside0.mk hrW
  clear hrW
  have HB := Aside0.mk (Below.refl w.heap.size w)
  have H : ((date_Show.f k 784111777).bind fun bt117 => ((date_Read.f k (⟨#[83, 117, 110, 44, 32, 48, 54, 32, 78, 111, 118, 32, 49, 57, 57, 52, 32, 48, 56, 58, 52, 57, 58, 51, 55, 32, 71, 77, 84]⟩ : ByteArray)).bind fun bt119 => (if bt117.2 = 0 then (if bt117.1.toList = ([83, 117, 110, 44, 32, 48, 54, 32, 78, 111, 118, 32, 49, 57, 57, 52, 32, 48, 56, 58, 52, 57, 58, 51, 55, 32, 71, 77, 84] : List UInt8) then (if bt119.2 = 0 then (some (bt119.1 == 784111777)) else (some false)) else (some false)) else (some false)))) = some r := h
  clear h
  replace H := Option.bind_eq_some_iff.mp H
  obtain ⟨⟨t117, t118⟩, A10, H⟩ := H
  replace H : ((date_Read.f k (⟨#[83, 117, 110, 44, 32, 48, 54, 32, 78, 111, 118, 32, 49, 57, 57, 52, 32, 48, 56, 58, 52, 57, 58, 51, 55, 32, 71, 77, 84]⟩ : ByteArray)).bind fun bt119 => (if t118 = 0 then (if t117.toList = ([83, 117, 110, 44, 32, 48, 54, 32, 78, 111, 118, 32, 49, 57, 57, 52, 32, 48, 56, 58, 52, 57, 58, 51, 55, 32, 71, 77, 84] : List UInt8) then (if bt119.2 = 0 then (some (bt119.1 == 784111777)) else (some false)) else (some false)) else (some false))) = some r := H
  have A1 := Aside0.mk A10
  clear A10
  replace H := Option.bind_eq_some_iff.mp H
  obtain ⟨⟨t119, t120⟩, A20, H⟩ := H
  replace H : (if t118 = 0 then (if t117.toList = ([83, 117, 110, 44, 32, 48, 54, 32, 78, 111, 118, 32, 49, 57, 57, 52, 32, 48, 56, 58, 52, 57, 58, 51, 55, 32, 71, 77, 84] : List UInt8) then (if t120 = 0 then (some (t119 == 784111777)) else (some false)) else (some false)) else (some false)) = some r := H
  have A2 := Aside0.mk A20
  clear A20
  by_cases c3 : t118 = 0
  · rw [if_pos c3] at H
    have c3b0 : (t118 == 0) = true := beq_iff_eq.mpr c3
    have c3b1 : (t118 != 0) = false := bne_eq_false_iff_eq.mpr c3
    clear c3
    by_cases c4 : t117.toList = ([83, 117, 110, 44, 32, 48, 54, 32, 78, 111, 118, 32, 49, 57, 57, 52, 32, 48, 56, 58, 52, 57, 58, 51, 55, 32, 71, 77, 84] : List UInt8)
    · rw [if_pos c4] at H
      have c4b0 : (t117.toList == ([83, 117, 110, 44, 32, 48, 54, 32, 78, 111, 118, 32, 49, 57, 57, 52, 32, 48, 56, 58, 52, 57, 58, 51, 55, 32, 71, 77, 84] : List UInt8)) = true := beq_iff_eq.mpr c4
      have c4b1 : (t117.toList != ([83, 117, 110, 44, 32, 48, 54, 32, 78, 111, 118, 32, 49, 57, 57, 52, 32, 48, 56, 58, 52, 57, 58, 51, 55, 32, 71, 77, 84] : List UInt8)) = false := bne_eq_false_iff_eq.mpr c4
      clear c4
      by_cases c5 : t120 = 0
      · rw [if_pos c5] at H
        have c5b0 : (t120 == 0) = true := beq_iff_eq.mpr c5
        have c5b1 : (t120 != 0) = false := bne_eq_false_iff_eq.mpr c5
        clear c5
        obtain rfl := Option.some.inj H
        go_enter Try.func10, Try.ntmps10
        go_wp2_with (first | ((with_reducible refine gate_callee (f := 11) rfl ?_); refine goesL_ (some 6) rfl rfl Try.func11 (by kernel_rfl) rfl #[.int .i64 784111777] rfl (by (try simp only [List.map_toArray, List.map_cons, List.map_nil]); first | done | rfl | (simp only [List.length_drop, List.length_take]; rfl)) ?_; (with_reducible refine (date_Show.calls k 784111777 t117 t118 _ A1.out).mono ?_); rintro e w6 ⟨rfl, hb⟩; refine ⟨_, rfl, ?_⟩; have n0_ := Aside0.mk (below_step (by repeat (first | (with_reducible first | exact HB.out | apply below_alloc | apply pw_below_drewN | apply below_drew1) | exact HB.out)) hb); clear HB; have HB := n0_; clear n0_; (try clear hb); (try clear hb2); (try clear hk); (try clear hi)) | ((with_reducible refine gate_callee (f := 15) rfl ?_); refine goesL_ (some 10) rfl rfl Try.func15 (by kernel_rfl) rfl #[.string (⟨#[83, 117, 110, 44, 32, 48, 54, 32, 78, 111, 118, 32, 49, 57, 57, 52, 32, 48, 56, 58, 52, 57, 58, 51, 55, 32, 71, 77, 84]⟩ : ByteArray)] rfl (by (try simp only [List.map_toArray, List.map_cons, List.map_nil]); first | done | rfl | (simp only [List.length_drop, List.length_take]; rfl)) ?_; (with_reducible refine (date_Read.calls k (⟨#[83, 117, 110, 44, 32, 48, 54, 32, 78, 111, 118, 32, 49, 57, 57, 52, 32, 48, 56, 58, 52, 57, 58, 51, 55, 32, 71, 77, 84]⟩ : ByteArray) t119 t120 _ ?side1 A2.out).mono ?_); (case side1 => repeat (first | exact (WF.below HRW.out HB.out) | (with_reducible refine Kd.C_alloc ?_ _) | (with_reducible refine Kd.C_drewN ?_ _) | (with_reducible refine Kd.C_drew ?_))); rintro e w7 ⟨rfl, hb⟩; refine ⟨_, rfl, ?_⟩; have n0_ := Aside0.mk (below_step (by repeat (first | (with_reducible first | exact HB.out | apply below_alloc | apply pw_below_drewN | apply below_drew1) | exact HB.out)) hb); clear HB; have HB := n0_; clear n0_; (try clear hb); (try clear hb2); (try clear hk); (try clear hi)))
        go_ret
        exact ⟨by first | rfl | (generalize ByteArray.toList _ = l_; cases l_ <;> rfl) | (simp [errW_none, errW_some] <;> rfl) | (simp [*, errW_none, errW_some] <;> rfl), by repeat (first | (with_reducible first | exact HB.out | apply below_alloc | apply pw_below_drewN | apply below_drew1) | exact HB.out)⟩
      · rw [if_neg c5] at H
        have c5b0 : (t120 == 0) = false := beq_eq_false_iff_ne.mpr c5
        have c5b1 : (t120 != 0) = true := bne_iff_ne.mpr c5
        obtain rfl := Option.some.inj H
        go_enter Try.func10, Try.ntmps10
        go_wp2_with (first | ((with_reducible refine gate_callee (f := 11) rfl ?_); refine goesL_ (some 6) rfl rfl Try.func11 (by kernel_rfl) rfl #[.int .i64 784111777] rfl (by (try simp only [List.map_toArray, List.map_cons, List.map_nil]); first | done | rfl | (simp only [List.length_drop, List.length_take]; rfl)) ?_; (with_reducible refine (date_Show.calls k 784111777 t117 t118 _ A1.out).mono ?_); rintro e w8 ⟨rfl, hb⟩; refine ⟨_, rfl, ?_⟩; have n0_ := Aside0.mk (below_step (by repeat (first | (with_reducible first | exact HB.out | apply below_alloc | apply pw_below_drewN | apply below_drew1) | exact HB.out)) hb); clear HB; have HB := n0_; clear n0_; (try clear hb); (try clear hb2); (try clear hk); (try clear hi)) | ((with_reducible refine gate_callee (f := 15) rfl ?_); refine goesL_ (some 10) rfl rfl Try.func15 (by kernel_rfl) rfl #[.string (⟨#[83, 117, 110, 44, 32, 48, 54, 32, 78, 111, 118, 32, 49, 57, 57, 52, 32, 48, 56, 58, 52, 57, 58, 51, 55, 32, 71, 77, 84]⟩ : ByteArray)] rfl (by (try simp only [List.map_toArray, List.map_cons, List.map_nil]); first | done | rfl | (simp only [List.length_drop, List.length_take]; rfl)) ?_; (with_reducible refine (date_Read.calls k (⟨#[83, 117, 110, 44, 32, 48, 54, 32, 78, 111, 118, 32, 49, 57, 57, 52, 32, 48, 56, 58, 52, 57, 58, 51, 55, 32, 71, 77, 84]⟩ : ByteArray) t119 t120 _ ?side1 A2.out).mono ?_); (case side1 => repeat (first | exact (WF.below HRW.out HB.out) | (with_reducible refine Kd.C_alloc ?_ _) | (with_reducible refine Kd.C_drewN ?_ _) | (with_reducible refine Kd.C_drew ?_))); rintro e w9 ⟨rfl, hb⟩; refine ⟨_, rfl, ?_⟩; have n0_ := Aside0.mk (below_step (by repeat (first | (with_reducible first | exact HB.out | apply below_alloc | apply pw_below_drewN | apply below_drew1) | exact HB.out)) hb); clear HB; have HB := n0_; clear n0_; (try clear hb); (try clear hb2); (try clear hk); (try clear hi)))
        go_ret
        exact ⟨by first | rfl | (generalize ByteArray.toList _ = l_; cases l_ <;> rfl) | (simp [errW_none, errW_some] <;> rfl) | (simp [*, errW_none, errW_some] <;> rfl), by repeat (first | (with_reducible first | exact HB.out | apply below_alloc | apply pw_below_drewN | apply below_drew1) | exact HB.out)⟩
    · rw [if_neg c4] at H
      have c4b0 : (t117.toList == ([83, 117, 110, 44, 32, 48, 54, 32, 78, 111, 118, 32, 49, 57, 57, 52, 32, 48, 56, 58, 52, 57, 58, 51, 55, 32, 71, 77, 84] : List UInt8)) = false := beq_eq_false_iff_ne.mpr c4
      have c4b1 : (t117.toList != ([83, 117, 110, 44, 32, 48, 54, 32, 78, 111, 118, 32, 49, 57, 57, 52, 32, 48, 56, 58, 52, 57, 58, 51, 55, 32, 71, 77, 84] : List UInt8)) = true := bne_iff_ne.mpr c4
      obtain rfl := Option.some.inj H
      go_enter Try.func10, Try.ntmps10
      go_wp2_with (first | ((with_reducible refine gate_callee (f := 11) rfl ?_); refine goesL_ (some 6) rfl rfl Try.func11 (by kernel_rfl) rfl #[.int .i64 784111777] rfl (by (try simp only [List.map_toArray, List.map_cons, List.map_nil]); first | done | rfl | (simp only [List.length_drop, List.length_take]; rfl)) ?_; (with_reducible refine (date_Show.calls k 784111777 t117 t118 _ A1.out).mono ?_); rintro e w10 ⟨rfl, hb⟩; refine ⟨_, rfl, ?_⟩; have n0_ := Aside0.mk (below_step (by repeat (first | (with_reducible first | exact HB.out | apply below_alloc | apply pw_below_drewN | apply below_drew1) | exact HB.out)) hb); clear HB; have HB := n0_; clear n0_; (try clear hb); (try clear hb2); (try clear hk); (try clear hi)) | ((with_reducible refine gate_callee (f := 15) rfl ?_); refine goesL_ (some 10) rfl rfl Try.func15 (by kernel_rfl) rfl #[.string (⟨#[83, 117, 110, 44, 32, 48, 54, 32, 78, 111, 118, 32, 49, 57, 57, 52, 32, 48, 56, 58, 52, 57, 58, 51, 55, 32, 71, 77, 84]⟩ : ByteArray)] rfl (by (try simp only [List.map_toArray, List.map_cons, List.map_nil]); first | done | rfl | (simp only [List.length_drop, List.length_take]; rfl)) ?_; (with_reducible refine (date_Read.calls k (⟨#[83, 117, 110, 44, 32, 48, 54, 32, 78, 111, 118, 32, 49, 57, 57, 52, 32, 48, 56, 58, 52, 57, 58, 51, 55, 32, 71, 77, 84]⟩ : ByteArray) t119 t120 _ ?side1 A2.out).mono ?_); (case side1 => repeat (first | exact (WF.below HRW.out HB.out) | (with_reducible refine Kd.C_alloc ?_ _) | (with_reducible refine Kd.C_drewN ?_ _) | (with_reducible refine Kd.C_drew ?_))); rintro e w11 ⟨rfl, hb⟩; refine ⟨_, rfl, ?_⟩; have n0_ := Aside0.mk (below_step (by repeat (first | (with_reducible first | exact HB.out | apply below_alloc | apply pw_below_drewN | apply below_drew1) | exact HB.out)) hb); clear HB; have HB := n0_; clear n0_; (try clear hb); (try clear hb2); (try clear hk); (try clear hi)))
      go_ret
      exact ⟨by first | rfl | (generalize ByteArray.toList _ = l_; cases l_ <;> rfl) | (simp [errW_none, errW_some] <;> rfl) | (simp [*, errW_none, errW_some] <;> rfl), by repeat (first | (with_reducible first | exact HB.out | apply below_alloc | apply pw_below_drewN | apply below_drew1) | exact HB.out)⟩
  · rw [if_neg c3] at H
    have c3b0 : (t118 == 0) = false := beq_eq_false_iff_ne.mpr c3
    have c3b1 : (t118 != 0) = true := bne_iff_ne.mpr c3
    obtain rfl := Option.some.inj H
    go_enter Try.func10, Try.ntmps10
    go_wp2_with (first | ((with_reducible refine gate_callee (f := 11) rfl ?_); refine goesL_ (some 6) rfl rfl Try.func11 (by kernel_rfl) rfl #[.int .i64 784111777] rfl (by (try simp only [List.map_toArray, List.map_cons, List.map_nil]); first | done | rfl | (simp only [List.length_drop, List.length_take]; rfl)) ?_; (with_reducible refine (date_Show.calls k 784111777 t117 t118 _ A1.out).mono ?_); rintro e w12 ⟨rfl, hb⟩; refine ⟨_, rfl, ?_⟩; have n0_ := Aside0.mk (below_step (by repeat (first | (with_reducible first | exact HB.out | apply below_alloc | apply pw_below_drewN | apply below_drew1) | exact HB.out)) hb); clear HB; have HB := n0_; clear n0_; (try clear hb); (try clear hb2); (try clear hk); (try clear hi)) | ((with_reducible refine gate_callee (f := 15) rfl ?_); refine goesL_ (some 10) rfl rfl Try.func15 (by kernel_rfl) rfl #[.string (⟨#[83, 117, 110, 44, 32, 48, 54, 32, 78, 111, 118, 32, 49, 57, 57, 52, 32, 48, 56, 58, 52, 57, 58, 51, 55, 32, 71, 77, 84]⟩ : ByteArray)] rfl (by (try simp only [List.map_toArray, List.map_cons, List.map_nil]); first | done | rfl | (simp only [List.length_drop, List.length_take]; rfl)) ?_; (with_reducible refine (date_Read.calls k (⟨#[83, 117, 110, 44, 32, 48, 54, 32, 78, 111, 118, 32, 49, 57, 57, 52, 32, 48, 56, 58, 52, 57, 58, 51, 55, 32, 71, 77, 84]⟩ : ByteArray) t119 t120 _ ?side1 A2.out).mono ?_); (case side1 => repeat (first | exact (WF.below HRW.out HB.out) | (with_reducible refine Kd.C_alloc ?_ _) | (with_reducible refine Kd.C_drewN ?_ _) | (with_reducible refine Kd.C_drew ?_))); rintro e w13 ⟨rfl, hb⟩; refine ⟨_, rfl, ?_⟩; have n0_ := Aside0.mk (below_step (by repeat (first | (with_reducible first | exact HB.out | apply below_alloc | apply pw_below_drewN | apply below_drew1) | exact HB.out)) hb); clear HB; have HB := n0_; clear n0_; (try clear hb); (try clear hb2); (try clear hk); (try clear hi)))
    go_ret
    exact ⟨by first | rfl | (generalize ByteArray.toList _ = l_; cases l_ <;> rfl) | (simp [errW_none, errW_some] <;> rfl) | (simp [*, errW_none, errW_some] <;> rfl), by repeat (first | (with_reducible first | exact HB.out | apply below_alloc | apply pw_below_drewN | apply below_drew1) | exact HB.out)⟩

/-! ### pantryref02_Leap: function 20 -/
def pantryref02_Leap.f (a0 : Int) : Option (Bool) := if (Int.tmod a0 400) = 0 then (some true) else (if (Int.tmod a0 4) = 0 then (some ((Int.tmod a0 100) != 0)) else (some false))
set_option maxHeartbeats 8000000 in
set_option maxRecDepth 100000 in
theorem pantryref02_Leap.calls (a0 : Int) (r : Bool) (w : World) (h : pantryref02_Leap.f a0 = some r) :
    Calls Try.prog 20 #[.int .i64 a0] w fun e w' => e = .returned (.bool r) ∧ Drawn0 w w' := by
  have H : (if (Int.tmod a0 400) = 0 then (some true) else (if (Int.tmod a0 4) = 0 then (some ((Int.tmod a0 100) != 0)) else (some false))) = some r := h
  clear h
  by_cases c2 : (Int.tmod a0 400) = 0
  · rw [if_pos c2] at H
    have c2b0 : ((Int.tmod a0 400) == 0) = true := beq_iff_eq.mpr c2
    have c2b1 : ((Int.tmod a0 400) != 0) = false := bne_eq_false_iff_eq.mpr c2
    clear c2
    obtain rfl := Option.some.inj H
    go_enter Try.func20, Try.ntmps20
    go_wp2
    go_ret
    exact ⟨by first | rfl | (simp; done) | (simp [*]; done), by repeat (first | exact Drawn0.refl _ | apply Drawn0.step)⟩
  · rw [if_neg c2] at H
    have c2b0 : ((Int.tmod a0 400) == 0) = false := beq_eq_false_iff_ne.mpr c2
    have c2b1 : ((Int.tmod a0 400) != 0) = true := bne_iff_ne.mpr c2
    by_cases c3 : (Int.tmod a0 4) = 0
    · rw [if_pos c3] at H
      have c3b0 : ((Int.tmod a0 4) == 0) = true := beq_iff_eq.mpr c3
      have c3b1 : ((Int.tmod a0 4) != 0) = false := bne_eq_false_iff_eq.mpr c3
      clear c3
      obtain rfl := Option.some.inj H
      go_enter Try.func20, Try.ntmps20
      go_wp2
      go_ret
      exact ⟨by first | rfl | (simp; done) | (simp [*]; done), by repeat (first | exact Drawn0.refl _ | apply Drawn0.step)⟩
    · rw [if_neg c3] at H
      have c3b0 : ((Int.tmod a0 4) == 0) = false := beq_eq_false_iff_ne.mpr c3
      have c3b1 : ((Int.tmod a0 4) != 0) = true := bne_iff_ne.mpr c3
      obtain rfl := Option.some.inj H
      go_enter Try.func20, Try.ntmps20
      go_wp2
      go_ret
      exact ⟨by first | rfl | (simp; done) | (simp [*]; done), by repeat (first | exact Drawn0.refl _ | apply Drawn0.step)⟩

/-! ### pantryref02_Days: function 17, by hand -/
def refTab : List Int := [0, 31, 28, 31, 30, 31, 30, 31, 31, 30, 31, 30, 31]
def pantryref02_Days.f (a0 a1 : Int) : Option Int :=
  if a0 < 1970 ∨ 9999 < a0 ∨ a1 < 1 ∨ 12 < a1 then some 0 else (pantryref02_Leap.f a0).bind fun b => if a1 = 2 ∧ b = true then some 29 else some (refTab.getD a1.toNat 0)
def refCells : Array Value := #[.int .i64 0, .int .i64 31, .int .i64 28, .int .i64 31, .int .i64 30, .int .i64 31, .int .i64 30, .int .i64 31, .int .i64 31, .int .i64 30, .int .i64 31, .int .i64 30, .int .i64 31]
theorem refCells_at (m : Nat) (h : m ≤ 12) : refCells[m]? = some (.int .i64 (refTab.getD m 0)) := by
  rcases m with _ | _ | _ | _ | _ | _ | _ | _ | _ | _ | _ | _ | _ | m
  any_goals rfl
  omega
set_option maxHeartbeats 2000000 in
set_option maxRecDepth 100000 in
theorem pantryref02_Days.calls (a0 a1 : Int) (r : Int) (w : World) (h : pantryref02_Days.f a0 a1 = some r) :
    Calls Try.prog 17 #[.int .i64 a0, .int .i64 a1] w fun e w' => e = .returned (.int .i64 r) ∧ Below w.heap.size w w' := by
  unfold pantryref02_Days.f at h
  by_cases ho : a0 < 1970 ∨ 9999 < a0 ∨ a1 < 1 ∨ 12 < a1
  · rw [if_pos ho] at h
    obtain rfl := Option.some.inj h
    clear h
    by_cases c1 : a0 < 1970
    · have b1 := decide_eq_true c1
      go_enter Try.func17, Try.ntmps17
      go_wp2
      go_ret
      exact ⟨rfl, Below.refl _ _⟩
    · have b1 := decide_eq_false c1
      by_cases c2 : 9999 < a0
      · have b2 := decide_eq_true c2
        go_enter Try.func17, Try.ntmps17
        go_wp2
        go_ret
        exact ⟨rfl, Below.refl _ _⟩
      · have b2 := decide_eq_false c2
        by_cases c3 : a1 < 1
        · have b3 := decide_eq_true c3
          go_enter Try.func17, Try.ntmps17
          go_wp2
          go_ret
          exact ⟨rfl, Below.refl _ _⟩
        · have b3 := decide_eq_false c3
          have c4 : 12 < a1 := by omega
          have b4 := decide_eq_true c4
          go_enter Try.func17, Try.ntmps17
          go_wp2
          go_ret
          exact ⟨rfl, Below.refl _ _⟩
  · rw [if_neg ho] at h
    cases hl : pantryref02_Leap.f a0 with
    | none => rw [hl] at h; simp at h
    | some b =>
      rw [hl] at h
      simp only [Option.bind_some] at h
      have HL := Aside0.mk hl
      clear hl
      have c1 : ¬ a0 < 1970 := by omega
      have c2 : ¬ 9999 < a0 := by omega
      have c3 : ¬ a1 < 1 := by omega
      have c4 : ¬ 12 < a1 := by omega
      have b1 := decide_eq_false c1
      have b2 := decide_eq_false c2
      have b3 := decide_eq_false c3
      have b4 := decide_eq_false c4
      obtain ⟨m, rfl⟩ := Int.eq_ofNat_of_zero_le (show 0 ≤ a1 by omega)
      have hm0 : 1 ≤ m := by omega
      have hm1 : m ≤ 12 := by omega
      clear ho c1 c2 c3 c4
      have HT := Aside0.mk h
      clear h
      obtain rfl | hm2 : m = 2 ∨ m ≠ 2 := by omega
      · cases b with
        | true =>
          have hr := HT.out
          simp at hr
          subst hr
          go_enter Try.func17, Try.ntmps17
          go_wp2_with (go_at_call 20; refine (pantryref02_Leap.calls a0 true _ HL.out).mono ?_; rintro e w' ⟨rfl, ⟨nd, rfl⟩⟩)
          go_ret
          exact ⟨rfl, pw_below_drewN ((Below.refl _ _).alloc (Nat.le_refl _) _) nd⟩
        | false =>
          have hr := HT.out
          simp [refTab] at hr
          subst hr
          go_enter Try.func17, Try.ntmps17
          go_wp2_with (go_at_call 20; refine (pantryref02_Leap.calls a0 false _ HL.out).mono ?_; rintro e w' ⟨rfl, ⟨nd, rfl⟩⟩)
          go_ret
          exact ⟨rfl, pw_below_drewN ((Below.refl _ _).alloc (Nat.le_refl _) _) nd⟩
      · have hne : ((m : Int) == 2) = false := by rw [beq_eq_false_iff_ne]; omega
        have hr : refTab.getD m 0 = r := by
          have := HT.out
          rw [if_neg (by omega)] at this
          simpa using this
        have hcell : (w.alloc (.cells #[.int .i64 0, .int .i64 31, .int .i64 28, .int .i64 31, .int .i64 30, .int .i64 31, .int .i64 30, .int .i64 31, .int .i64 31, .int .i64 30, .int .i64 31, .int .i64 30, .int .i64 31] 46)).cell? ⟨w.heap.size, m, none⟩ = some (.int .i64 r) := by
          rw [Lib.cell_of_heap (heap_alloc_new w _), ← hr]
          exact refCells_at m hm1
        clear hr HT HL
        go_enter Try.func17, Try.ntmps17
        go_wp2
        go_ret
        exact ⟨rfl, (Below.refl _ _).alloc (Nat.le_refl _) _⟩

end Go.Proofs.Ytiaiengdncdiaaa.PAll
