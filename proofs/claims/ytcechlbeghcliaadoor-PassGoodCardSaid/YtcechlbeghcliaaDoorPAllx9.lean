-- Text by a program of this session, over what print.py prints.
import Derived.Test.YtcechlbeghcliaaDoorPAllx0
import Derived.Test.YtcechlbeghcliaaDoorPAllx5
import Derived.Test.YtcechlbeghcliaaDoorPAllx8
namespace Go.Proofs.YtcechlbeghcliaaDoor.PAll
open Go.RowKit Go.Proofs.YtcechlbeghcliaaDoorW.PrintWords Go.Proofs.YtcechlbeghcliaaDoorW.PrintLast Go.Proofs.YtcechlbeghcliaaDoorW.PrintMore
attribute [local go_sem] max2_int min2_int max_two min_two max_three min_three max_four min_four   -- for this text's walks alone
set_option linter.unusedVariables false
set_option linter.unusedSimpArgs false

/-! ### pantryref02_Days: function 82, by hand -/
def refTab : List Int := [0, 31, 28, 31, 30, 31, 30, 31, 31, 30, 31, 30, 31]
def pantryref02_Days.f (a0 a1 : Int) : Option Int :=
  if a0 < 1970 ∨ 9999 < a0 ∨ a1 < 1 ∨ 12 < a1 then some 0 else (pantryref02_Leap.f a0).bind fun b => if a1 = 2 ∧ b = true then some 29 else some (refTab.getD a1.toNat 0)
def refCells : Array Value := #[.int .i64 0, .int .i64 31, .int .i64 28, .int .i64 31, .int .i64 30, .int .i64 31, .int .i64 30, .int .i64 31, .int .i64 31, .int .i64 30, .int .i64 31, .int .i64 30, .int .i64 31]
theorem refCells_at (m : Nat) (h : m ≤ 12) : refCells[m]? = some (.int .i64 (refTab.getD m 0)) := by
  rcases m with _ | _ | _ | _ | _ | _ | _ | _ | _ | _ | _ | _ | _ | m
  any_goals rfl
  omega
set_option maxHeartbeats 2000000 in
set_option maxRecDepth 100000 in
theorem pantryref02_Days.calls (a0 a1 : Int) (r : Int) (w : World) (h : pantryref02_Days.f a0 a1 = some r) :
    Calls Tryd.prog 82 #[.int .i64 a0, .int .i64 a1] w fun e w' => e = .returned (.int .i64 r) ∧ Below w.heap.size w w' := by
  unfold pantryref02_Days.f at h
  by_cases ho : a0 < 1970 ∨ 9999 < a0 ∨ a1 < 1 ∨ 12 < a1
  · rw [if_pos ho] at h
    obtain rfl := Option.some.inj h
    clear h
    by_cases c1 : a0 < 1970
    · have b1 := decide_eq_true c1
      go_enter Tryd.func82, Tryd.ntmps82
      go_wp2
      go_ret
      exact ⟨rfl, Below.refl _ _⟩
    · have b1 := decide_eq_false c1
      by_cases c2 : 9999 < a0
      · have b2 := decide_eq_true c2
        go_enter Tryd.func82, Tryd.ntmps82
        go_wp2
        go_ret
        exact ⟨rfl, Below.refl _ _⟩
      · have b2 := decide_eq_false c2
        by_cases c3 : a1 < 1
        · have b3 := decide_eq_true c3
          go_enter Tryd.func82, Tryd.ntmps82
          go_wp2
          go_ret
          exact ⟨rfl, Below.refl _ _⟩
        · have b3 := decide_eq_false c3
          have c4 : 12 < a1 := by omega
          have b4 := decide_eq_true c4
          go_enter Tryd.func82, Tryd.ntmps82
          go_wp2
          go_ret
          exact ⟨rfl, Below.refl _ _⟩
  · rw [if_neg ho] at h
    cases hl : pantryref02_Leap.f a0 with
    | none => rw [hl] at h; simp at h
    | some b =>
      rw [hl] at h
      simp only [Option.bind_some] at h
      have HL := Aside0.mk hl
      clear hl
      have c1 : ¬ a0 < 1970 := by omega
      have c2 : ¬ 9999 < a0 := by omega
      have c3 : ¬ a1 < 1 := by omega
      have c4 : ¬ 12 < a1 := by omega
      have b1 := decide_eq_false c1
      have b2 := decide_eq_false c2
      have b3 := decide_eq_false c3
      have b4 := decide_eq_false c4
      obtain ⟨m, rfl⟩ := Int.eq_ofNat_of_zero_le (show 0 ≤ a1 by omega)
      have hm0 : 1 ≤ m := by omega
      have hm1 : m ≤ 12 := by omega
      clear ho c1 c2 c3 c4
      have HT := Aside0.mk h
      clear h
      obtain rfl | hm2 : m = 2 ∨ m ≠ 2 := by omega
      · cases b with
        | true =>
          have hr := HT.out
          simp at hr
          subst hr
          go_enter Tryd.func82, Tryd.ntmps82
          go_wp2_with (go_at_call 81; refine (pantryref02_Leap.calls a0 true _ HL.out).mono ?_; rintro e w' ⟨rfl, ⟨nd, rfl⟩⟩)
          go_ret
          exact ⟨rfl, pw_below_drewN ((Below.refl _ _).alloc (Nat.le_refl _) _) nd⟩
        | false =>
          have hr := HT.out
          simp [refTab] at hr
          subst hr
          go_enter Tryd.func82, Tryd.ntmps82
          go_wp2_with (go_at_call 81; refine (pantryref02_Leap.calls a0 false _ HL.out).mono ?_; rintro e w' ⟨rfl, ⟨nd, rfl⟩⟩)
          go_ret
          exact ⟨rfl, pw_below_drewN ((Below.refl _ _).alloc (Nat.le_refl _) _) nd⟩
      · have hne : ((m : Int) == 2) = false := by rw [beq_eq_false_iff_ne]; omega
        have hr : refTab.getD m 0 = r := by
          have := HT.out
          rw [if_neg (by omega)] at this
          simpa using this
        have hcell : (w.alloc (.cells #[.int .i64 0, .int .i64 31, .int .i64 28, .int .i64 31, .int .i64 30, .int .i64 31, .int .i64 30, .int .i64 31, .int .i64 31, .int .i64 30, .int .i64 31, .int .i64 30, .int .i64 31] 113)).cell? ⟨w.heap.size, m, none⟩ = some (.int .i64 r) := by
          rw [Lib.cell_of_heap (heap_alloc_new w _), ← hr]
          exact refCells_at m hm1
        clear hr HT HL
        go_enter Tryd.func82, Tryd.ntmps82
        go_wp2
        go_ret
        exact ⟨rfl, (Below.refl _ _).alloc (Nat.le_refl _) _⟩

/-! ### pantryref02_Split: function 99 -/
mutual
def pantryref02_Split.j1 : Nat → Int → Int → Int → Option (Int × Int × Int × Int)
  | 0, _, _, _ => none
  | k + 1, x0, x6, x7 => pantryref02_Split.l1 k x0 x6 x7 1
def pantryref02_Split.l1 : Nat → Int → Int → Int → Int → Option (Int × Int × Int × Int)
  | 0, _, _, _, _ => none
  | k + 1, x0, x6, x7, x9 => (pantryref02_Days.f x7 x9).bind fun t251 => (if x6 ≥ t251 then ((pantryref02_Days.f x7 x9).bind fun t252 => (pantryref02_Split.l1 k x0 (wrap64 (x6 - t252)) x7 (wrap64 (x9 + 1)))) else (some (x7, x9, wrap64 (x6 + 1), Int.tmod x0 86400)))
def pantryref02_Split.l0 : Nat → Int → Int → Int → Option (Int × Int × Int × Int)
  | 0, _, _, _ => none
  | k + 1, x0, x6, x7 => (pantryref02_Leap.f x7).bind fun t250 => (if t250 = true then (if x6 < 366 then (pantryref02_Split.j1 k x0 x6 x7) else (pantryref02_Split.l0 k x0 (wrap64 (x6 - 366)) (wrap64 (x7 + 1)))) else (if x6 < 365 then (pantryref02_Split.j1 k x0 x6 x7) else (pantryref02_Split.l0 k x0 (wrap64 (x6 - 365)) (wrap64 (x7 + 1)))))
end
def pantryref02_Split.f (k : Nat) (a0 : Int) : Option (Int × Int × Int × Int) := pantryref02_Split.l0 k a0 (wrap64 (Int.tdiv a0 86400)) 1970
theorem pantryref02_Split.mono_l : ∀ k, (∀ y0 y1 y2, LeO (pantryref02_Split.j1 k y0 y1 y2) (pantryref02_Split.j1 (k + 1) y0 y1 y2)) ∧ (∀ y0 y1 y2 y3, LeO (pantryref02_Split.l1 k y0 y1 y2 y3) (pantryref02_Split.l1 (k + 1) y0 y1 y2 y3)) ∧ (∀ y0 y1 y2, LeO (pantryref02_Split.l0 k y0 y1 y2) (pantryref02_Split.l0 (k + 1) y0 y1 y2))
  | 0 => ⟨fun _ _ _ r h => by simp [pantryref02_Split.j1] at h, fun _ _ _ _ r h => by simp [pantryref02_Split.l1] at h, fun _ _ _ r h => by simp [pantryref02_Split.l0] at h⟩
  | k + 1 => by
    obtain ⟨ih0, ih1, ih2⟩ := pantryref02_Split.mono_l k
    refine ⟨?_, ?_, ?_⟩
    · intro y0 y1 y2
      unfold pantryref02_Split.j1
      repeat' first
      | (with_reducible exact ih0 _ _ _)
      | (with_reducible exact ih1 _ _ _ _)
      | (with_reducible exact ih2 _ _ _)
      | (with_reducible exact LeO.refl _)
      | (with_reducible exact LeO.none _)
      | (with_reducible refine LeO.ite ?_ ?_)
      | (with_reducible refine LeO.bind ?_ (fun _ => ?_))
      | exact ih0 _ _ _
      | exact ih1 _ _ _ _
      | exact ih2 _ _ _
      | exact LeO.none _
      | refine LeO.ite ?_ ?_
      | refine LeO.bind ?_ (fun _ => ?_)
    · intro y0 y1 y2 y3
      unfold pantryref02_Split.l1
      repeat' first
      | (with_reducible exact ih0 _ _ _)
      | (with_reducible exact ih1 _ _ _ _)
      | (with_reducible exact ih2 _ _ _)
      | (with_reducible exact LeO.refl _)
      | (with_reducible exact LeO.none _)
      | (with_reducible refine LeO.ite ?_ ?_)
      | (with_reducible refine LeO.bind ?_ (fun _ => ?_))
      | exact ih0 _ _ _
      | exact ih1 _ _ _ _
      | exact ih2 _ _ _
      | exact LeO.none _
      | refine LeO.ite ?_ ?_
      | refine LeO.bind ?_ (fun _ => ?_)
    · intro y0 y1 y2
      unfold pantryref02_Split.l0
      repeat' first
      | (with_reducible exact ih0 _ _ _)
      | (with_reducible exact ih1 _ _ _ _)
      | (with_reducible exact ih2 _ _ _)
      | (with_reducible exact LeO.refl _)
      | (with_reducible exact LeO.none _)
      | (with_reducible refine LeO.ite ?_ ?_)
      | (with_reducible refine LeO.bind ?_ (fun _ => ?_))
      | exact ih0 _ _ _
      | exact ih1 _ _ _ _
      | exact ih2 _ _ _
      | exact LeO.none _
      | refine LeO.ite ?_ ?_
      | refine LeO.bind ?_ (fun _ => ?_)
theorem pantryref02_Split.mono : ∀ a0 k, LeO (pantryref02_Split.f k a0) (pantryref02_Split.f (k + 1) a0) := by
  intro a0 k
  obtain ⟨ih0, ih1, ih2⟩ := pantryref02_Split.mono_l k
  unfold pantryref02_Split.f
  repeat' first
      | (with_reducible exact ih0 _ _ _)
      | (with_reducible exact ih1 _ _ _ _)
      | (with_reducible exact ih2 _ _ _)
      | (with_reducible exact LeO.refl _)
      | (with_reducible exact LeO.none _)
      | (with_reducible refine LeO.ite ?_ ?_)
      | (with_reducible refine LeO.bind ?_ (fun _ => ?_))
      | exact ih0 _ _ _
      | exact ih1 _ _ _ _
      | exact ih2 _ _ _
      | exact LeO.none _
      | refine LeO.ite ?_ ?_
      | refine LeO.bind ?_ (fun _ => ?_)
set_option maxHeartbeats 8000000 in
set_option maxRecDepth 100000 in
theorem pantryref02_Split.calls (k : Nat) (a0 : Int) (r1 : Int) (r2 : Int) (r3 : Int) (r4 : Int) (w : World) (h : pantryref02_Split.f k a0 = some (r1, r2, r3, r4)) :
    Calls Tryd.prog 99 #[.int .i64 a0] w fun e w' => e = .returned (.tuple #[.int .i64 r1, .int .i64 r2, .int .i64 r3, .int .i64 r4]) ∧ Below w.heap.size w w' := by
  have HB := Aside0.mk (Below.refl w.heap.size w)
  have H : (pantryref02_Split.l0 k a0 (wrap64 (Int.tdiv a0 86400)) 1970) = some (r1, r2, r3, r4) := h
  clear h
  have HC2 := Aside0.mk H
  clear H
  go_enter Tryd.func99, Tryd.ntmps99
  go_upto_block 0 with (fail)
  go_cut [6, 7] (fun v6 v7 wc => ∃ (kq : Nat) (x6_1 : Int) (x7_1 : Int), v6 = .int .i64 x6_1 ∧ v7 = .int .i64 x7_1 ∧ Aside0 (pantryref02_Split.j1 kq a0 x6_1 x7_1 = some (r1, r2, r3, r4)) ∧ Aside0 (kq ≤ k) ∧ Aside0 (Below w.heap.size w wc))
  case first =>
    have H := HC2.out
    clear HC2
    have H' := Aside0.mk H
    clear H
    go_wp2
    go_loopg [6, 7] k (fun kq v6 v7 w' => ∃ (x6_1 : Int) (x7_1 : Int), v6 = .int .i64 x6_1 ∧ v7 = .int .i64 x7_1 ∧ Aside0 (pantryref02_Split.l0 kq a0 x6_1 x7_1 = some (r1, r2, r3, r4)) ∧ Aside0 (kq ≤ k) ∧ Aside0 (Below w.heap.size w w'))
    case atStart => exact ⟨(wrap64 (Int.tdiv a0 86400)), (1970), (by first | rfl | (simp; done) | (simp [*]; done)), (by first | rfl | (simp; done) | (simp [*]; done)), H', ⟨Nat.le_refl _⟩, ⟨by repeat (first | (with_reducible first | exact HB.out | apply below_alloc | apply pw_below_drewN | apply below_drew1) | exact HB.out)⟩⟩
    case round =>
      clear H'
      try clear p2
      obtain ⟨x6_1, x7_1, rfl, rfl, HA, HK1, HB⟩ := hrel
      cases gk with
      | zero => exact absurd HA.out (by simp [pantryref02_Split.l0])
      | succ k1 =>
        have H := HA.out
        clear HA
        simp only [pantryref02_Split.l0] at H
        replace H := Option.bind_eq_some_iff.mp H
        obtain ⟨t250, A30, H⟩ := H
        replace H : (if t250 = true then (if x6_1 < 366 then (pantryref02_Split.j1 k1 a0 x6_1 x7_1) else (pantryref02_Split.l0 k1 a0 (wrap64 (x6_1 - 366)) (wrap64 (x7_1 + 1)))) else (if x6_1 < 365 then (pantryref02_Split.j1 k1 a0 x6_1 x7_1) else (pantryref02_Split.l0 k1 a0 (wrap64 (x6_1 - 365)) (wrap64 (x7_1 + 1))))) = some (r1, r2, r3, r4) := H
        have A3 := Aside0.mk A30
        clear A30
        by_cases c4 : t250 = true
        · subst c4
          have H1 : (if x6_1 < 366 then (pantryref02_Split.j1 k1 a0 x6_1 x7_1) else (pantryref02_Split.l0 k1 a0 (wrap64 (x6_1 - 366)) (wrap64 (x7_1 + 1)))) = some (r1, r2, r3, r4) := by rw [if_pos rfl] at H; exact H
          clear H
          have H := H1
          clear H1
          by_cases c5 : x6_1 < 366
          · rw [if_pos c5] at H
            have c5b0 : decide (x6_1 < 366) = true := decide_eq_true c5
            clear c5
            (first | rw [c5b0] | (simp only [i64_w, i32_w]; rw [c5b0]) | skip)
            have H' := Aside0.mk H
            clear H
            go_wp2_with (first | ((with_reducible refine gate_callee (f := 81) rfl ?_); refine goesL_ (some 13) rfl rfl Tryd.func81 (by kernel_rfl) rfl #[.int .i64 x7_1] rfl (by (try simp only [List.map_toArray, List.map_cons, List.map_nil]); first | done | rfl | (simp only [List.length_drop, List.length_take]; rfl)) ?_; (with_reducible refine (pantryref02_Leap.calls x7_1 true _ A3.out).mono ?_); rintro e w' ⟨rfl, ⟨nd, rfl⟩⟩; refine ⟨_, rfl, ?_⟩))
            go_meet
            case rel => exact ⟨_, (x6_1), (x7_1), (by first | rfl | (simp; done) | (simp [*]; done)), (by first | rfl | (simp; done) | (simp [*]; done)), H', ⟨by have := HK1.out; first | omega | exact Nat.le_refl _⟩, ⟨by repeat (first | (with_reducible first | exact HB.out | apply below_alloc | apply pw_below_drewN | apply below_drew1) | exact HB.out)⟩⟩
          · rw [if_neg c5] at H
            have c5b0 : decide (x6_1 < 366) = false := decide_eq_false c5
            clear c5
            (first | rw [c5b0] | (simp only [i64_w, i32_w]; rw [c5b0]) | skip)
            have H' := Aside0.mk H
            clear H
            go_wp2_with (first | ((with_reducible refine gate_callee (f := 81) rfl ?_); refine goesL_ (some 13) rfl rfl Tryd.func81 (by kernel_rfl) rfl #[.int .i64 x7_1] rfl (by (try simp only [List.map_toArray, List.map_cons, List.map_nil]); first | done | rfl | (simp only [List.length_drop, List.length_take]; rfl)) ?_; (with_reducible refine (pantryref02_Leap.calls x7_1 true _ A3.out).mono ?_); rintro e w' ⟨rfl, ⟨nd, rfl⟩⟩; refine ⟨_, rfl, ?_⟩))
            go_roundg k1
            case measure => have := HK1.out; omega
            case rel => exact ⟨(wrap64 (x6_1 - 366)), (wrap64 (x7_1 + 1)), (by first | rfl | (simp; done) | (simp [*]; done)), (by first | rfl | (simp; done) | (simp [*]; done)), H', ⟨by have := HK1.out; omega⟩, ⟨by repeat (first | (with_reducible first | exact HB.out | apply below_alloc | apply pw_below_drewN | apply below_drew1) | exact HB.out)⟩⟩
        · replace c4 := Bool.eq_false_iff.mpr c4
          subst c4
          have H1 : (if x6_1 < 365 then (pantryref02_Split.j1 k1 a0 x6_1 x7_1) else (pantryref02_Split.l0 k1 a0 (wrap64 (x6_1 - 365)) (wrap64 (x7_1 + 1)))) = some (r1, r2, r3, r4) := by rw [if_neg (show ¬ (false = true) by decide)] at H; exact H
          clear H
          have H := H1
          clear H1
          by_cases c6 : x6_1 < 365
          · rw [if_pos c6] at H
            have c6b0 : decide (x6_1 < 365) = true := decide_eq_true c6
            clear c6
            have H' := Aside0.mk H
            clear H
            go_wp2_with (first | ((with_reducible refine gate_callee (f := 81) rfl ?_); refine goesL_ (some 13) rfl rfl Tryd.func81 (by kernel_rfl) rfl #[.int .i64 x7_1] rfl (by (try simp only [List.map_toArray, List.map_cons, List.map_nil]); first | done | rfl | (simp only [List.length_drop, List.length_take]; rfl)) ?_; (with_reducible refine (pantryref02_Leap.calls x7_1 false _ A3.out).mono ?_); rintro e w' ⟨rfl, ⟨nd, rfl⟩⟩; refine ⟨_, rfl, ?_⟩))
            go_meet
            case rel => exact ⟨_, (x6_1), (x7_1), (by first | rfl | (simp; done) | (simp [*]; done)), (by first | rfl | (simp; done) | (simp [*]; done)), H', ⟨by have := HK1.out; first | omega | exact Nat.le_refl _⟩, ⟨by repeat (first | (with_reducible first | exact HB.out | apply below_alloc | apply pw_below_drewN | apply below_drew1) | exact HB.out)⟩⟩
          · rw [if_neg c6] at H
            have c6b0 : decide (x6_1 < 365) = false := decide_eq_false c6
            clear c6
            have H' := Aside0.mk H
            clear H
            go_wp2_with (first | ((with_reducible refine gate_callee (f := 81) rfl ?_); refine goesL_ (some 13) rfl rfl Tryd.func81 (by kernel_rfl) rfl #[.int .i64 x7_1] rfl (by (try simp only [List.map_toArray, List.map_cons, List.map_nil]); first | done | rfl | (simp only [List.length_drop, List.length_take]; rfl)) ?_; (with_reducible refine (pantryref02_Leap.calls x7_1 false _ A3.out).mono ?_); rintro e w' ⟨rfl, ⟨nd, rfl⟩⟩; refine ⟨_, rfl, ?_⟩))
            go_roundg k1
            case measure => have := HK1.out; omega
            case rel => exact ⟨(wrap64 (x6_1 - 365)), (wrap64 (x7_1 + 1)), (by first | rfl | (simp; done) | (simp [*]; done)), (by first | rfl | (simp; done) | (simp [*]; done)), H', ⟨by have := HK1.out; omega⟩, ⟨by repeat (first | (with_reducible first | exact HB.out | apply below_alloc | apply pw_below_drewN | apply below_drew1) | exact HB.out)⟩⟩
  case rest =>
    clear HC2
    try clear p2
    try clear c4
    try clear c5
    try clear c5b0
    try clear c6
    try clear c6b0
    try clear p6
    try clear p2
    obtain ⟨kq, x6_1, x7_1, rfl, rfl, HA, HJ1, HB⟩ := hcut
    cases kq with
    | zero => exact absurd HA.out (by simp [pantryref02_Split.j1])
    | succ kj1 =>
      have H := HA.out
      clear HA
      simp only [pantryref02_Split.j1] at H
      have H' := Aside0.mk H
      clear H
      go_wp2
      go_loopg [6, 9] kj1 (fun kq v6 v9 w' => ∃ (x6_2 : Int) (x9_2 : Int), v6 = .int .i64 x6_2 ∧ v9 = .int .i64 x9_2 ∧ Aside0 (pantryref02_Split.l1 kq a0 x6_2 x7_1 x9_2 = some (r1, r2, r3, r4)) ∧ Aside0 (kq ≤ kj1) ∧ Aside0 (Below w.heap.size w w'))
      case atStart => exact ⟨(x6_1), (1), (by first | rfl | (simp; done) | (simp [*]; done)), (by first | rfl | (simp; done) | (simp [*]; done)), H', ⟨Nat.le_refl _⟩, ⟨by repeat (first | (with_reducible first | exact HB.out | apply below_alloc | apply pw_below_drewN | apply below_drew1) | exact HB.out)⟩⟩
      case round =>
        clear H'
        try clear p2
        try clear c4
        try clear c5
        try clear c5b0
        try clear c6
        try clear c6b0
        try clear p6
        try clear p2
        try clear p6
        obtain ⟨x6_2, x9_2, rfl, rfl, HA, HK2, HB⟩ := hrel
        cases gk with
        | zero => exact absurd HA.out (by simp [pantryref02_Split.l1])
        | succ k2 =>
          have H := HA.out
          clear HA
          simp only [pantryref02_Split.l1] at H
          replace H := Option.bind_eq_some_iff.mp H
          obtain ⟨t251, A70, H⟩ := H
          replace H : (if x6_2 ≥ t251 then ((pantryref02_Days.f x7_1 x9_2).bind fun t252 => (pantryref02_Split.l1 k2 a0 (wrap64 (x6_2 - t252)) x7_1 (wrap64 (x9_2 + 1)))) else (some (x7_1, x9_2, wrap64 (x6_2 + 1), Int.tmod a0 86400))) = some (r1, r2, r3, r4) := H
          have A7 := Aside0.mk A70
          clear A70
          by_cases c8 : x6_2 ≥ t251
          · rw [if_pos c8] at H
            have c8b0 : decide (t251 ≤ x6_2) = true := decide_eq_true c8
            clear c8
            replace H := Option.bind_eq_some_iff.mp H
            obtain ⟨t252, A90, H⟩ := H
            replace H : (pantryref02_Split.l1 k2 a0 (wrap64 (x6_2 - t252)) x7_1 (wrap64 (x9_2 + 1))) = some (r1, r2, r3, r4) := H
            have A9 := Aside0.mk A90
            clear A90
            have H' := Aside0.mk H
            clear H
            go_wp2_with (first | ((with_reducible refine gate_callee (f := 82) rfl ?_); refine goesL_ (some 25) rfl rfl Tryd.func82 (by kernel_rfl) rfl #[.int .i64 x7_1, .int .i64 x9_2] rfl (by (try simp only [List.map_toArray, List.map_cons, List.map_nil]); first | done | rfl | (simp only [List.length_drop, List.length_take]; rfl)) ?_; (with_reducible refine (pantryref02_Days.calls x7_1 x9_2 t251 _ A7.out).mono ?_); rintro e w10 ⟨rfl, hb⟩; refine ⟨_, rfl, ?_⟩; have n0_ := Aside0.mk (below_step (by repeat (first | (with_reducible first | exact HB.out | apply below_alloc | apply pw_below_drewN | apply below_drew1) | exact HB.out)) hb); clear HB; have HB := n0_; clear n0_; (try clear hb); (try clear hb2); (try clear hk); (try clear hi)) | ((with_reducible refine gate_callee (f := 82) rfl ?_); refine goesL_ (some 30) rfl rfl Tryd.func82 (by kernel_rfl) rfl #[.int .i64 x7_1, .int .i64 x9_2] rfl (by (try simp only [List.map_toArray, List.map_cons, List.map_nil]); first | done | rfl | (simp only [List.length_drop, List.length_take]; rfl)) ?_; (with_reducible refine (pantryref02_Days.calls x7_1 x9_2 t252 _ A9.out).mono ?_); rintro e w11 ⟨rfl, hb⟩; refine ⟨_, rfl, ?_⟩; have n0_ := Aside0.mk (below_step (by repeat (first | (with_reducible first | exact HB.out | apply below_alloc | apply pw_below_drewN | apply below_drew1) | exact HB.out)) hb); clear HB; have HB := n0_; clear n0_; (try clear hb); (try clear hb2); (try clear hk); (try clear hi)))
            go_roundg k2
            case measure => have := HJ1.out; have := HK2.out; omega
            case rel => exact ⟨(wrap64 (x6_2 - t252)), (wrap64 (x9_2 + 1)), (by first | rfl | (simp; done) | (simp [*]; done)), (by first | rfl | (simp; done) | (simp [*]; done)), H', ⟨by have := HJ1.out; have := HK2.out; omega⟩, ⟨by repeat (first | (with_reducible first | exact HB.out | apply below_alloc | apply pw_below_drewN | apply below_drew1) | exact HB.out)⟩⟩
          · rw [if_neg c8] at H
            have c8b0 : decide (t251 ≤ x6_2) = false := decide_eq_false c8
            clear c8
            simp only [Option.some.injEq, Prod.mk.injEq] at H
            obtain ⟨rfl, rfl, rfl, rfl⟩ := H
            go_wp2_with (first | ((with_reducible refine gate_callee (f := 82) rfl ?_); refine goesL_ (some 25) rfl rfl Tryd.func82 (by kernel_rfl) rfl #[.int .i64 x7_1, .int .i64 x9_2] rfl (by (try simp only [List.map_toArray, List.map_cons, List.map_nil]); first | done | rfl | (simp only [List.length_drop, List.length_take]; rfl)) ?_; (with_reducible refine (pantryref02_Days.calls x7_1 x9_2 t251 _ A7.out).mono ?_); rintro e w12 ⟨rfl, hb⟩; refine ⟨_, rfl, ?_⟩; have n0_ := Aside0.mk (below_step (by repeat (first | (with_reducible first | exact HB.out | apply below_alloc | apply pw_below_drewN | apply below_drew1) | exact HB.out)) hb); clear HB; have HB := n0_; clear n0_; (try clear hb); (try clear hb2); (try clear hk); (try clear hi)))
            refine bodyPost_ret (results_list (rs := [.tmp 2, .tmp 3, .tmp 4, .tmp 5]) rfl (by simp) (.tmp (.tmp (.tmp (.tmp .nil))))) rfl ?_
            exact ⟨by first | rfl | (generalize ByteArray.toList _ = l_; cases l_ <;> rfl) | (simp [errW_none, errW_some] <;> rfl) | (simp [*, errW_none, errW_some] <;> rfl), by repeat (first | (with_reducible first | exact HB.out | apply below_alloc | apply pw_below_drewN | apply below_drew1) | exact HB.out)⟩

/-! ### pantryref02_two: function 100 -/
def pantryref02_two.f (a0 : Int) : Option (ByteArray) := some (strOfNums (([(wrap64 (48 + (wrap64 (Int.tdiv a0 10)))) % 256, (wrap64 (48 + (Int.tmod a0 10))) % 256] : List Int)))
set_option maxHeartbeats 8000000 in
set_option maxRecDepth 100000 in
theorem pantryref02_two.calls (a0 : Int) (r : ByteArray) (w : World) (h : pantryref02_two.f a0 = some r) :
    Calls Tryd.prog 100 #[.int .i64 a0] w fun e w' => e = .returned (.string r) ∧ Below w.heap.size w w' := by
  have HB := Aside0.mk (Below.refl w.heap.size w)
  have H : (some (strOfNums (([(wrap64 (48 + (wrap64 (Int.tdiv a0 10)))) % 256, (wrap64 (48 + (Int.tmod a0 10))) % 256] : List Int)))) = some r := h
  clear h
  obtain ⟨y253, hy253⟩ : ∃ y_ : List Int, y_ = (([(wrap64 (48 + (wrap64 (Int.tdiv a0 10)))) % 256, (wrap64 (48 + (Int.tmod a0 10))) % 256] : List Int)) := ⟨_, rfl⟩
  replace H : (some (strOfNums y253)) = some r := by first | (rw [hy253]; with_reducible exact H) | (have H2_ := (Option.bind_some _ _).symm.trans H; rw [hy253]; with_reducible exact H2_) | (have H2_ := (Option.bind_some _ _).symm.trans H; with_reducible exact H2_) | with_reducible exact H | (rw [hy253]; exact H) | exact H
  have Ny253 := Aside0.mk hy253
  clear hy253
  obtain rfl := Option.some.inj H
  go_enter Tryd.func100, Tryd.ntmps100
  go_wp2_with (first | ((with_reducible refine gate_dst (N := 11) rfl ?_); refine Kd.R_lit (Kd.int .u8) _ 5 ?hg (N := 11) ?hd (xs := ([(wrap64 (48 + (wrap64 (Int.tdiv a0 10)))) % 256, (wrap64 (48 + (Int.tmod a0 10))) % 256] : List Int)) (inner := [.int .u8 ((wrap64 (48 + (wrap64 (Int.tdiv a0 10)))) % 256), .int .u8 ((wrap64 (48 + (Int.tmod a0 10))) % 256)]) (ok := fun _ => True) (okp := fun _ => True) ?hr ?hp (fun _ hk => hk) trivial (Below.refl _ _) (Nat.le_refl _) (by simp) ?_; (case hd => rfl); (case hg => rfl); (case hr => first | (go_simp; done) | (go_simp; rfl)); (case hp => exact (Reps.one (show Kd.M (Kd.int .u8) _ _ _ ((wrap64 (48 + (wrap64 (Int.tdiv a0 10)))) % 256) [.int .u8 ((wrap64 (48 + (wrap64 (Int.tdiv a0 10)))) % 256)] from rfl) (Reps.one (show Kd.M (Kd.int .u8) _ _ _ ((wrap64 (48 + (Int.tmod a0 10))) % 256) [.int .u8 ((wrap64 (48 + (Int.tmod a0 10))) % 256)] from rfl) (Reps.none _ _)))); intro v254 w2 ho3 hb hg_ hnew_; clear hg_ hnew_; (first | rw [← Ny253.out] at ho3 | (simp only [Int.reduceToNat] at ho3; rw [← Ny253.out] at ho3)); have n0_ := Aside0.mk (Kd.R_lower ho3 (below_size (by repeat (first | (with_reducible first | exact HB.out | apply below_alloc | apply pw_below_drewN | apply below_drew1) | exact HB.out)))); have n1_ := Aside0.mk (below_step (by repeat (first | (with_reducible first | exact HB.out | apply below_alloc | apply pw_below_drewN | apply below_drew1) | exact HB.out)) hb); clear HB; have HO255 := n0_; have HB := n1_; clear n0_ n1_; clear hb ho3; have hcv4 := own_string (P := Tryd.prog) Tryd.underlying46 Tryd.underlying5 Tryd.underlying9 (Kd.own_of_R HO255.out)))
  go_ret
  exact ⟨by first | rfl | (generalize ByteArray.toList _ = l_; cases l_ <;> rfl) | (simp [errW_none, errW_some] <;> rfl) | (simp [*, errW_none, errW_some] <;> rfl), by repeat (first | (with_reducible first | exact HB.out | apply below_alloc | apply pw_below_drewN | apply below_drew1) | exact HB.out)⟩

/-! ### pantryref02_Show: function 83, by hand -/
def rtwo (n : Int) : ByteArray := (pantryref02_two.f n).getD ⟨#[]⟩
theorem two_any (n : Int) (w : World) : Calls Tryd.prog 100 #[.int .i64 n] w fun e w' => e = .returned (.string (rtwo n)) ∧ Below w.heap.size w w' :=
  pantryref02_two.calls n (rtwo n) w rfl
theorem rtwo_size (n : Int) : (rtwo n).size = 2 := by
  unfold rtwo pantryref02_two.f strOfNums
  rfl
theorem szA : (⟨#[44, 32]⟩ : ByteArray).size = 2 := rfl
theorem szB : (⟨#[32]⟩ : ByteArray).size = 1 := rfl
theorem szC : (⟨#[58]⟩ : ByteArray).size = 1 := rfl
theorem szD : (⟨#[32, 71, 77, 84]⟩ : ByteArray).size = 4 := rfl
def refWeek : Array Value := #[.string ⟨#[84, 104, 117]⟩, .string ⟨#[70, 114, 105]⟩, .string ⟨#[83, 97, 116]⟩, .string ⟨#[83, 117, 110]⟩, .string ⟨#[77, 111, 110]⟩, .string ⟨#[84, 117, 101]⟩, .string ⟨#[87, 101, 100]⟩]
def refMonth : Array Value := #[.string ⟨#[]⟩, .string ⟨#[74, 97, 110]⟩, .string ⟨#[70, 101, 98]⟩, .string ⟨#[77, 97, 114]⟩, .string ⟨#[65, 112, 114]⟩, .string ⟨#[77, 97, 121]⟩, .string ⟨#[74, 117, 110]⟩, .string ⟨#[74, 117, 108]⟩, .string ⟨#[65, 117, 103]⟩, .string ⟨#[83, 101, 112]⟩, .string ⟨#[79, 99, 116]⟩, .string ⟨#[78, 111, 118]⟩, .string ⟨#[68, 101, 99]⟩]
def weekAt (q : Nat) : ByteArray := weekB.extract (q * 3) (q * 3 + 3)
def monthAt (m : Nat) : ByteArray := monthB.extract (3 * m - 3) (3 * m - 3 + 3)
theorem refWeek_at (q : Nat) (h : q ≤ 6) : refWeek[q]? = some (.string (weekAt q)) := by
  rcases q with _ | _ | _ | _ | _ | _ | _ | q
  any_goals rfl
  omega
theorem refMonth_at (m : Nat) (h0 : 1 ≤ m) (h : m ≤ 12) : refMonth[m]? = some (.string (monthAt m)) := by
  rcases m with _ | _ | _ | _ | _ | _ | _ | _ | _ | _ | _ | _ | _ | m
  · omega
  any_goals rfl
  omega
def refShowB (t y m d r : Int) : ByteArray := weekAt (t / 86400 % 7).toNat ++ ⟨#[44, 32]⟩ ++ (rtwo d) ++ ⟨#[32]⟩ ++ monthAt m.toNat ++ ⟨#[32]⟩ ++ (rtwo (y / 100)) ++ (rtwo (y % 100)) ++ ⟨#[32]⟩ ++ (rtwo (r / 3600)) ++ ⟨#[58]⟩ ++ (rtwo (r / 60 % 60)) ++ ⟨#[58]⟩ ++ (rtwo (r % 60)) ++ ⟨#[32, 71, 77, 84]⟩
def pantryref02_Show.f (k : Nat) (a0 : Int) : Option ByteArray :=
  (pantryref02_Split.f k a0).bind fun b => if ShowOk a0 b.1 b.2.1 b.2.2.1 b.2.2.2 then some (refShowB a0 b.1 b.2.1 b.2.2.1 b.2.2.2) else none
theorem pantryref02_Show.mono : ∀ a0 k, LeO (pantryref02_Show.f k a0) (pantryref02_Show.f (k + 1) a0) := by
  intro a0 k
  unfold pantryref02_Show.f
  exact LeO.bind (pantryref02_Split.mono _ _) (fun _ => LeO.refl _)
theorem run_adds {P : Program} (a b : ByteArray) (n : Nat) (ha : a.size ≤ n) (hb : b.size ≤ 4) (hn : n ≤ 100) (W : World) : (Op.stringOp .add a b).run P W = .ok (.string (a ++ b)) W := run_string_add_sum W a b (by omega)
set_option maxHeartbeats 4000000 in
set_option maxRecDepth 100000 in
theorem pantryref02_Show.calls (k : Nat) (a0 : Int) (r1 : ByteArray) (w : World) (h : pantryref02_Show.f k a0 = some r1) :
    Calls Tryd.prog 83 #[.int .i64 a0] w fun e w' => e = .returned (.string r1) ∧ Below w.heap.size w w' := by
  unfold pantryref02_Show.f at h
  cases hs : pantryref02_Split.f k a0 with
  | none => rw [hs] at h; simp at h
  | some b =>
    obtain ⟨y, m, d, r⟩ := b
    rw [hs] at h
    simp only [Option.bind_some] at h
    have HS := Aside0.mk hs
    clear hs
    by_cases hok : ShowOk a0 y m d r
    · rw [if_pos hok] at h
      have h' := Option.some.inj h
      clear h
      obtain ⟨⟨ht0, ht1⟩, ⟨hy0, hy1⟩, ⟨hm0, hm1⟩, ⟨hd0, hd1⟩, hr0, hr1⟩ := hok
      obtain ⟨m, rfl⟩ := Int.eq_ofNat_of_zero_le (show 0 ≤ m by omega)
      obtain ⟨q, hq⟩ := Int.eq_ofNat_of_zero_le (show 0 ≤ a0 / 86400 % 7 by omega)
      have hq6 : q ≤ 6 := by omega
      have hm1' : m ≤ 12 := by omega
      have hm0' : 1 ≤ m := by omega
      unfold refShowB at h'
      rw [hq, Int.toNat_natCast, Int.toNat_natCast] at h'
      have hwk : (weekAt q).size ≤ 3 := by unfold weekAt; rw [ByteArray.size_extract]; omega
      have hmo : (monthAt m).size ≤ 4 := by unfold monthAt; rw [ByteArray.size_extract]; omega
      have cW := refWeek_at q hq6
      have cM := refMonth_at m hm0' hm1'
      generalize weekAt q = wk at *
      generalize monthAt m = mo at *
      subst h'
      have HQ := Aside0.mk hq
      clear hq
      have hszw := hwk
      have hszm := hmo
      have k1 : ∀ W, (Op.stringOp .add wk ⟨#[44, 32]⟩).run Tryd.prog W = .ok (.string (wk ++ ⟨#[44, 32]⟩)) W := fun W => run_adds _ _ 60 (by first | omega | (simp only [ByteArray.size_append, rtwo_size, szA, szB, szC]; omega)) (by first | (rw [rtwo_size]; omega) | (simp only [szA, szB, szC, szD]; omega) | omega) (by omega) W
      have k2 : ∀ W, (Op.stringOp .add (wk ++ ⟨#[44, 32]⟩) (rtwo d)).run Tryd.prog W = .ok (.string (wk ++ ⟨#[44, 32]⟩ ++ (rtwo d))) W := fun W => run_adds _ _ 60 (by first | omega | (simp only [ByteArray.size_append, rtwo_size, szA, szB, szC]; omega)) (by first | (rw [rtwo_size]; omega) | (simp only [szA, szB, szC, szD]; omega) | omega) (by omega) W
      have k3 : ∀ W, (Op.stringOp .add (wk ++ ⟨#[44, 32]⟩ ++ (rtwo d)) ⟨#[32]⟩).run Tryd.prog W = .ok (.string (wk ++ ⟨#[44, 32]⟩ ++ (rtwo d) ++ ⟨#[32]⟩)) W := fun W => run_adds _ _ 60 (by first | omega | (simp only [ByteArray.size_append, rtwo_size, szA, szB, szC]; omega)) (by first | (rw [rtwo_size]; omega) | (simp only [szA, szB, szC, szD]; omega) | omega) (by omega) W
      have k4 : ∀ W, (Op.stringOp .add (wk ++ ⟨#[44, 32]⟩ ++ (rtwo d) ++ ⟨#[32]⟩) mo).run Tryd.prog W = .ok (.string (wk ++ ⟨#[44, 32]⟩ ++ (rtwo d) ++ ⟨#[32]⟩ ++ mo)) W := fun W => run_adds _ _ 60 (by first | omega | (simp only [ByteArray.size_append, rtwo_size, szA, szB, szC]; omega)) (by first | (rw [rtwo_size]; omega) | (simp only [szA, szB, szC, szD]; omega) | omega) (by omega) W
      have k5 : ∀ W, (Op.stringOp .add (wk ++ ⟨#[44, 32]⟩ ++ (rtwo d) ++ ⟨#[32]⟩ ++ mo) ⟨#[32]⟩).run Tryd.prog W = .ok (.string (wk ++ ⟨#[44, 32]⟩ ++ (rtwo d) ++ ⟨#[32]⟩ ++ mo ++ ⟨#[32]⟩)) W := fun W => run_adds _ _ 60 (by first | omega | (simp only [ByteArray.size_append, rtwo_size, szA, szB, szC]; omega)) (by first | (rw [rtwo_size]; omega) | (simp only [szA, szB, szC, szD]; omega) | omega) (by omega) W
      have k6 : ∀ W, (Op.stringOp .add (wk ++ ⟨#[44, 32]⟩ ++ (rtwo d) ++ ⟨#[32]⟩ ++ mo ++ ⟨#[32]⟩) (rtwo (y / 100))).run Tryd.prog W = .ok (.string (wk ++ ⟨#[44, 32]⟩ ++ (rtwo d) ++ ⟨#[32]⟩ ++ mo ++ ⟨#[32]⟩ ++ (rtwo (y / 100)))) W := fun W => run_adds _ _ 60 (by first | omega | (simp only [ByteArray.size_append, rtwo_size, szA, szB, szC]; omega)) (by first | (rw [rtwo_size]; omega) | (simp only [szA, szB, szC, szD]; omega) | omega) (by omega) W
      have k7 : ∀ W, (Op.stringOp .add (wk ++ ⟨#[44, 32]⟩ ++ (rtwo d) ++ ⟨#[32]⟩ ++ mo ++ ⟨#[32]⟩ ++ (rtwo (y / 100))) (rtwo (y % 100))).run Tryd.prog W = .ok (.string (wk ++ ⟨#[44, 32]⟩ ++ (rtwo d) ++ ⟨#[32]⟩ ++ mo ++ ⟨#[32]⟩ ++ (rtwo (y / 100)) ++ (rtwo (y % 100)))) W := fun W => run_adds _ _ 60 (by first | omega | (simp only [ByteArray.size_append, rtwo_size, szA, szB, szC]; omega)) (by first | (rw [rtwo_size]; omega) | (simp only [szA, szB, szC, szD]; omega) | omega) (by omega) W
      have k8 : ∀ W, (Op.stringOp .add (wk ++ ⟨#[44, 32]⟩ ++ (rtwo d) ++ ⟨#[32]⟩ ++ mo ++ ⟨#[32]⟩ ++ (rtwo (y / 100)) ++ (rtwo (y % 100))) ⟨#[32]⟩).run Tryd.prog W = .ok (.string (wk ++ ⟨#[44, 32]⟩ ++ (rtwo d) ++ ⟨#[32]⟩ ++ mo ++ ⟨#[32]⟩ ++ (rtwo (y / 100)) ++ (rtwo (y % 100)) ++ ⟨#[32]⟩)) W := fun W => run_adds _ _ 60 (by first | omega | (simp only [ByteArray.size_append, rtwo_size, szA, szB, szC]; omega)) (by first | (rw [rtwo_size]; omega) | (simp only [szA, szB, szC, szD]; omega) | omega) (by omega) W
      have k9 : ∀ W, (Op.stringOp .add (wk ++ ⟨#[44, 32]⟩ ++ (rtwo d) ++ ⟨#[32]⟩ ++ mo ++ ⟨#[32]⟩ ++ (rtwo (y / 100)) ++ (rtwo (y % 100)) ++ ⟨#[32]⟩) (rtwo (r / 3600))).run Tryd.prog W = .ok (.string (wk ++ ⟨#[44, 32]⟩ ++ (rtwo d) ++ ⟨#[32]⟩ ++ mo ++ ⟨#[32]⟩ ++ (rtwo (y / 100)) ++ (rtwo (y % 100)) ++ ⟨#[32]⟩ ++ (rtwo (r / 3600)))) W := fun W => run_adds _ _ 60 (by first | omega | (simp only [ByteArray.size_append, rtwo_size, szA, szB, szC]; omega)) (by first | (rw [rtwo_size]; omega) | (simp only [szA, szB, szC, szD]; omega) | omega) (by omega) W
      have k10 : ∀ W, (Op.stringOp .add (wk ++ ⟨#[44, 32]⟩ ++ (rtwo d) ++ ⟨#[32]⟩ ++ mo ++ ⟨#[32]⟩ ++ (rtwo (y / 100)) ++ (rtwo (y % 100)) ++ ⟨#[32]⟩ ++ (rtwo (r / 3600))) ⟨#[58]⟩).run Tryd.prog W = .ok (.string (wk ++ ⟨#[44, 32]⟩ ++ (rtwo d) ++ ⟨#[32]⟩ ++ mo ++ ⟨#[32]⟩ ++ (rtwo (y / 100)) ++ (rtwo (y % 100)) ++ ⟨#[32]⟩ ++ (rtwo (r / 3600)) ++ ⟨#[58]⟩)) W := fun W => run_adds _ _ 60 (by first | omega | (simp only [ByteArray.size_append, rtwo_size, szA, szB, szC]; omega)) (by first | (rw [rtwo_size]; omega) | (simp only [szA, szB, szC, szD]; omega) | omega) (by omega) W
      have k11 : ∀ W, (Op.stringOp .add (wk ++ ⟨#[44, 32]⟩ ++ (rtwo d) ++ ⟨#[32]⟩ ++ mo ++ ⟨#[32]⟩ ++ (rtwo (y / 100)) ++ (rtwo (y % 100)) ++ ⟨#[32]⟩ ++ (rtwo (r / 3600)) ++ ⟨#[58]⟩) (rtwo (r / 60 % 60))).run Tryd.prog W = .ok (.string (wk ++ ⟨#[44, 32]⟩ ++ (rtwo d) ++ ⟨#[32]⟩ ++ mo ++ ⟨#[32]⟩ ++ (rtwo (y / 100)) ++ (rtwo (y % 100)) ++ ⟨#[32]⟩ ++ (rtwo (r / 3600)) ++ ⟨#[58]⟩ ++ (rtwo (r / 60 % 60)))) W := fun W => run_adds _ _ 60 (by first | omega | (simp only [ByteArray.size_append, rtwo_size, szA, szB, szC]; omega)) (by first | (rw [rtwo_size]; omega) | (simp only [szA, szB, szC, szD]; omega) | omega) (by omega) W
      have k12 : ∀ W, (Op.stringOp .add (wk ++ ⟨#[44, 32]⟩ ++ (rtwo d) ++ ⟨#[32]⟩ ++ mo ++ ⟨#[32]⟩ ++ (rtwo (y / 100)) ++ (rtwo (y % 100)) ++ ⟨#[32]⟩ ++ (rtwo (r / 3600)) ++ ⟨#[58]⟩ ++ (rtwo (r / 60 % 60))) ⟨#[58]⟩).run Tryd.prog W = .ok (.string (wk ++ ⟨#[44, 32]⟩ ++ (rtwo d) ++ ⟨#[32]⟩ ++ mo ++ ⟨#[32]⟩ ++ (rtwo (y / 100)) ++ (rtwo (y % 100)) ++ ⟨#[32]⟩ ++ (rtwo (r / 3600)) ++ ⟨#[58]⟩ ++ (rtwo (r / 60 % 60)) ++ ⟨#[58]⟩)) W := fun W => run_adds _ _ 60 (by first | omega | (simp only [ByteArray.size_append, rtwo_size, szA, szB, szC]; omega)) (by first | (rw [rtwo_size]; omega) | (simp only [szA, szB, szC, szD]; omega) | omega) (by omega) W
      have k13 : ∀ W, (Op.stringOp .add (wk ++ ⟨#[44, 32]⟩ ++ (rtwo d) ++ ⟨#[32]⟩ ++ mo ++ ⟨#[32]⟩ ++ (rtwo (y / 100)) ++ (rtwo (y % 100)) ++ ⟨#[32]⟩ ++ (rtwo (r / 3600)) ++ ⟨#[58]⟩ ++ (rtwo (r / 60 % 60)) ++ ⟨#[58]⟩) (rtwo (r % 60))).run Tryd.prog W = .ok (.string (wk ++ ⟨#[44, 32]⟩ ++ (rtwo d) ++ ⟨#[32]⟩ ++ mo ++ ⟨#[32]⟩ ++ (rtwo (y / 100)) ++ (rtwo (y % 100)) ++ ⟨#[32]⟩ ++ (rtwo (r / 3600)) ++ ⟨#[58]⟩ ++ (rtwo (r / 60 % 60)) ++ ⟨#[58]⟩ ++ (rtwo (r % 60)))) W := fun W => run_adds _ _ 60 (by first | omega | (simp only [ByteArray.size_append, rtwo_size, szA, szB, szC]; omega)) (by first | (rw [rtwo_size]; omega) | (simp only [szA, szB, szC, szD]; omega) | omega) (by omega) W
      have k14 : ∀ W, (Op.stringOp .add (wk ++ ⟨#[44, 32]⟩ ++ (rtwo d) ++ ⟨#[32]⟩ ++ mo ++ ⟨#[32]⟩ ++ (rtwo (y / 100)) ++ (rtwo (y % 100)) ++ ⟨#[32]⟩ ++ (rtwo (r / 3600)) ++ ⟨#[58]⟩ ++ (rtwo (r / 60 % 60)) ++ ⟨#[58]⟩ ++ (rtwo (r % 60))) ⟨#[32, 71, 77, 84]⟩).run Tryd.prog W = .ok (.string (wk ++ ⟨#[44, 32]⟩ ++ (rtwo d) ++ ⟨#[32]⟩ ++ mo ++ ⟨#[32]⟩ ++ (rtwo (y / 100)) ++ (rtwo (y % 100)) ++ ⟨#[32]⟩ ++ (rtwo (r / 3600)) ++ ⟨#[58]⟩ ++ (rtwo (r / 60 % 60)) ++ ⟨#[58]⟩ ++ (rtwo (r % 60)) ++ ⟨#[32, 71, 77, 84]⟩)) W := fun W => run_adds _ _ 60 (by first | omega | (simp only [ByteArray.size_append, rtwo_size, szA, szB, szC]; omega)) (by first | (rw [rtwo_size]; omega) | (simp only [szA, szB, szC, szD]; omega) | omega) (by omega) W
      go_enter Tryd.func83, Tryd.ntmps83
      go_wp2_with (go_at_call 99; refine (pantryref02_Split.calls k a0 y m d r w HS.out).mono ?_; rintro e w' ⟨rfl, hb0⟩)
      have hq := HQ.out
      have hq0 : (0 : Int) ≤ (q : Int) := by omega
      have hq7 : (q : Int) < 7 := by omega
      have hm7 : (m : Int) < 13 := by omega
      have hc7 : ((w'.alloc (.cells #[.string ⟨#[84, 104, 117]⟩, .string ⟨#[70, 114, 105]⟩, .string ⟨#[83, 97, 116]⟩, .string ⟨#[83, 117, 110]⟩, .string ⟨#[77, 111, 110]⟩, .string ⟨#[84, 117, 101]⟩, .string ⟨#[87, 101, 100]⟩] 116)).alloc (.cells #[.string ⟨#[]⟩, .string ⟨#[74, 97, 110]⟩, .string ⟨#[70, 101, 98]⟩, .string ⟨#[77, 97, 114]⟩, .string ⟨#[65, 112, 114]⟩, .string ⟨#[77, 97, 121]⟩, .string ⟨#[74, 117, 110]⟩, .string ⟨#[74, 117, 108]⟩, .string ⟨#[65, 117, 103]⟩, .string ⟨#[83, 101, 112]⟩, .string ⟨#[79, 99, 116]⟩, .string ⟨#[78, 111, 118]⟩, .string ⟨#[68, 101, 99]⟩] 95)).cell? ⟨w'.heap.size, q, none⟩ = some (.string wk) := by
        rw [Lib.cell_of_heap ((Lib.alloc_old _ _ _ (by simp)).trans (heap_alloc_new w' _))]
        exact cW
      have hc13 : ((w'.alloc (.cells #[.string ⟨#[84, 104, 117]⟩, .string ⟨#[70, 114, 105]⟩, .string ⟨#[83, 97, 116]⟩, .string ⟨#[83, 117, 110]⟩, .string ⟨#[77, 111, 110]⟩, .string ⟨#[84, 117, 101]⟩, .string ⟨#[87, 101, 100]⟩] 116)).alloc (.cells #[.string ⟨#[]⟩, .string ⟨#[74, 97, 110]⟩, .string ⟨#[70, 101, 98]⟩, .string ⟨#[77, 97, 114]⟩, .string ⟨#[65, 112, 114]⟩, .string ⟨#[77, 97, 121]⟩, .string ⟨#[74, 117, 110]⟩, .string ⟨#[74, 117, 108]⟩, .string ⟨#[65, 117, 103]⟩, .string ⟨#[83, 101, 112]⟩, .string ⟨#[79, 99, 116]⟩, .string ⟨#[78, 111, 118]⟩, .string ⟨#[68, 101, 99]⟩] 95)).cell? ⟨w'.heap.size + 1, m, none⟩ = some (.string mo) := by
        have := heap_alloc_new (w'.alloc (.cells refWeek 116)) (.cells refMonth 95)
        rw [show (w'.alloc (.cells refWeek 116)).heap.size = w'.heap.size + 1 by simp] at this
        exact (Lib.cell_of_heap this m).trans cM
      have hbz : Below w.heap.size w ((w'.alloc (.cells #[.string ⟨#[84, 104, 117]⟩, .string ⟨#[70, 114, 105]⟩, .string ⟨#[83, 97, 116]⟩, .string ⟨#[83, 117, 110]⟩, .string ⟨#[77, 111, 110]⟩, .string ⟨#[84, 117, 101]⟩, .string ⟨#[87, 101, 100]⟩] 116)).alloc (.cells #[.string ⟨#[]⟩, .string ⟨#[74, 97, 110]⟩, .string ⟨#[70, 101, 98]⟩, .string ⟨#[77, 97, 114]⟩, .string ⟨#[65, 112, 114]⟩, .string ⟨#[77, 97, 121]⟩, .string ⟨#[74, 117, 110]⟩, .string ⟨#[74, 117, 108]⟩, .string ⟨#[65, 117, 103]⟩, .string ⟨#[83, 101, 112]⟩, .string ⟨#[79, 99, 116]⟩, .string ⟨#[78, 111, 118]⟩, .string ⟨#[68, 101, 99]⟩] 95)) := (hb0.alloc hb0.size _).alloc (by have := hb0.size; simp; omega) _
      generalize ((w'.alloc (.cells #[.string ⟨#[84, 104, 117]⟩, .string ⟨#[70, 114, 105]⟩, .string ⟨#[83, 97, 116]⟩, .string ⟨#[83, 117, 110]⟩, .string ⟨#[77, 111, 110]⟩, .string ⟨#[84, 117, 101]⟩, .string ⟨#[87, 101, 100]⟩] 116)).alloc (.cells #[.string ⟨#[]⟩, .string ⟨#[74, 97, 110]⟩, .string ⟨#[70, 101, 98]⟩, .string ⟨#[77, 97, 114]⟩, .string ⟨#[65, 112, 114]⟩, .string ⟨#[77, 97, 121]⟩, .string ⟨#[74, 117, 110]⟩, .string ⟨#[74, 117, 108]⟩, .string ⟨#[65, 117, 103]⟩, .string ⟨#[83, 101, 112]⟩, .string ⟨#[79, 99, 116]⟩, .string ⟨#[78, 111, 118]⟩, .string ⟨#[68, 101, 99]⟩] 95)) = wz at *
      have e20 : a0.tdiv 86400 = a0 / 86400 := Int.tdiv_eq_ediv_of_nonneg ht0
      have e20w : IntKind.i64.wrap (a0 / 86400) = a0 / 86400 := IntWalk.i64_in _ (by omega)
      have e21 : (a0 / 86400).tmod 7 = (q : Int) := by rw [Int.tmod_eq_emod_of_nonneg (by omega)]; exact hq
      have e35 : y.tdiv 100 = y / 100 := Int.tdiv_eq_ediv_of_nonneg hy0
      have e35w : IntKind.i64.wrap (y / 100) = y / 100 := IntWalk.i64_in _ (by omega)
      have e39 : y.tmod 100 = y % 100 := Int.tmod_eq_emod_of_nonneg hy0
      go_region_held3 (fun W => W.cell? ⟨w'.heap.size, q, none⟩ = some (.string wk) ∧ W.cell? ⟨w'.heap.size + 1, m, none⟩ = some (.string mo) ∧ Below w.heap.size w W)
        (first | (go_split_ands; exact ⟨pw_cell_below hbt (by assumption), pw_cell_below hbt (by assumption), below_then (by assumption) (Below.size (by assumption)) hbt⟩) | exact ⟨(by assumption : _), (by assumption : _), below_drew (by assumption)⟩ | go_keep)
        (first | (go_at_call 100; refine (two_any _ _).mono ?_; rintro e w9 ⟨rfl, hbt⟩))
      go_split_ands
      have HBQ : Aside0 (Below w.heap.size w _) := Aside0.mk (by assumption)
      have f45 : 0 ≤ r / 3600 := by omega
      have f50 : 0 ≤ r / 60 := by omega
      clear hc7 hc13
      go_wp2_with fail
      refine (two_any _ _).mono ?_
      rintro e wa ⟨rfl, hba⟩
      have HB1 := Aside0.mk (below_then HBQ.out HBQ.out.size hba)
      go_wp2_with fail
      refine (two_any _ _).mono ?_
      rintro e wb ⟨rfl, hbb⟩
      have HB2 := Aside0.mk (below_then HB1.out HB1.out.size hbb)
      go_wp2_with fail
      refine (two_any _ _).mono ?_
      rintro e wc ⟨rfl, hbc⟩
      go_wp2
      go_ret
      exact ⟨rfl, below_then HB2.out HB2.out.size hbc⟩
    · rw [if_neg hok] at h
      cases h

end Go.Proofs.YtcechlbeghcliaaDoor.PAll
