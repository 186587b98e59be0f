-- Text by a program of this session, over what print.py prints.
import Derived.Test.YtiaiengdncdiaaaPAllx0
import Derived.Test.YtiaiengdncdiaaaPAllx1
import Derived.Test.YtiaiengdncdiaaaPAllx2
import Derived.Test.YtiaiengdncdiaaaPAllx3
namespace Go.Proofs.Ytiaiengdncdiaaa.PAll
open Go.RowKit Go.Proofs.YtiaiengdncdiaaaW.PrintWords Go.Proofs.YtiaiengdncdiaaaW.PrintLast Go.Proofs.YtiaiengdncdiaaaW.PrintMore
attribute [local go_sem] max2_int min2_int max_two min_two max_three min_three max_four min_four   -- for this text's walks alone
set_option linter.unusedVariables false
set_option linter.unusedSimpArgs false

/-! ### pantryref02_Split: function 13 -/
mutual
def pantryref02_Split.j1 : Nat → Int → Int → Int → Option (Int × Int × Int × Int)
  | 0, _, _, _ => none
  | k + 1, x0, x6, x7 => pantryref02_Split.l1 k x0 x6 x7 1
def pantryref02_Split.l1 : Nat → Int → Int → Int → Int → Option (Int × Int × Int × Int)
  | 0, _, _, _, _ => none
  | k + 1, x0, x6, x7, x9 => (pantryref02_Days.f x7 x9).bind fun t122 => (if x6 ≥ t122 then ((pantryref02_Days.f x7 x9).bind fun t123 => (pantryref02_Split.l1 k x0 (wrap64 (x6 - t123)) x7 (wrap64 (x9 + 1)))) else (some (x7, x9, wrap64 (x6 + 1), Int.tmod x0 86400)))
def pantryref02_Split.l0 : Nat → Int → Int → Int → Option (Int × Int × Int × Int)
  | 0, _, _, _ => none
  | k + 1, x0, x6, x7 => (pantryref02_Leap.f x7).bind fun t121 => (if t121 = true then (if x6 < 366 then (pantryref02_Split.j1 k x0 x6 x7) else (pantryref02_Split.l0 k x0 (wrap64 (x6 - 366)) (wrap64 (x7 + 1)))) else (if x6 < 365 then (pantryref02_Split.j1 k x0 x6 x7) else (pantryref02_Split.l0 k x0 (wrap64 (x6 - 365)) (wrap64 (x7 + 1)))))
end
def pantryref02_Split.f (k : Nat) (a0 : Int) : Option (Int × Int × Int × Int) := pantryref02_Split.l0 k a0 (wrap64 (Int.tdiv a0 86400)) 1970
theorem pantryref02_Split.mono_l : ∀ k, (∀ y0 y1 y2, LeO (pantryref02_Split.j1 k y0 y1 y2) (pantryref02_Split.j1 (k + 1) y0 y1 y2)) ∧ (∀ y0 y1 y2 y3, LeO (pantryref02_Split.l1 k y0 y1 y2 y3) (pantryref02_Split.l1 (k + 1) y0 y1 y2 y3)) ∧ (∀ y0 y1 y2, LeO (pantryref02_Split.l0 k y0 y1 y2) (pantryref02_Split.l0 (k + 1) y0 y1 y2))
  | 0 => ⟨fun _ _ _ r h => by simp [pantryref02_Split.j1] at h, fun _ _ _ _ r h => by simp [pantryref02_Split.l1] at h, fun _ _ _ r h => by simp [pantryref02_Split.l0] at h⟩
  | k + 1 => by
    obtain ⟨ih0, ih1, ih2⟩ := pantryref02_Split.mono_l k
    refine ⟨?_, ?_, ?_⟩
    · intro y0 y1 y2
      unfold pantryref02_Split.j1
      repeat' first
      | (with_reducible exact ih0 _ _ _)
      | (with_reducible exact ih1 _ _ _ _)
      | (with_reducible exact ih2 _ _ _)
      | (with_reducible exact LeO.refl _)
      | (with_reducible exact LeO.none _)
      | (with_reducible refine LeO.ite ?_ ?_)
      | (with_reducible refine LeO.bind ?_ (fun _ => ?_))
      | exact ih0 _ _ _
      | exact ih1 _ _ _ _
      | exact ih2 _ _ _
      | exact LeO.none _
      | refine LeO.ite ?_ ?_
      | refine LeO.bind ?_ (fun _ => ?_)
    · intro y0 y1 y2 y3
      unfold pantryref02_Split.l1
      repeat' first
      | (with_reducible exact ih0 _ _ _)
      | (with_reducible exact ih1 _ _ _ _)
      | (with_reducible exact ih2 _ _ _)
      | (with_reducible exact LeO.refl _)
      | (with_reducible exact LeO.none _)
      | (with_reducible refine LeO.ite ?_ ?_)
      | (with_reducible refine LeO.bind ?_ (fun _ => ?_))
      | exact ih0 _ _ _
      | exact ih1 _ _ _ _
      | exact ih2 _ _ _
      | exact LeO.none _
      | refine LeO.ite ?_ ?_
      | refine LeO.bind ?_ (fun _ => ?_)
    · intro y0 y1 y2
      unfold pantryref02_Split.l0
      repeat' first
      | (with_reducible exact ih0 _ _ _)
      | (with_reducible exact ih1 _ _ _ _)
      | (with_reducible exact ih2 _ _ _)
      | (with_reducible exact LeO.refl _)
      | (with_reducible exact LeO.none _)
      | (with_reducible refine LeO.ite ?_ ?_)
      | (with_reducible refine LeO.bind ?_ (fun _ => ?_))
      | exact ih0 _ _ _
      | exact ih1 _ _ _ _
      | exact ih2 _ _ _
      | exact LeO.none _
      | refine LeO.ite ?_ ?_
      | refine LeO.bind ?_ (fun _ => ?_)
theorem pantryref02_Split.mono : ∀ a0 k, LeO (pantryref02_Split.f k a0) (pantryref02_Split.f (k + 1) a0) := by
  intro a0 k
  obtain ⟨ih0, ih1, ih2⟩ := pantryref02_Split.mono_l k
  unfold pantryref02_Split.f
  repeat' first
      | (with_reducible exact ih0 _ _ _)
      | (with_reducible exact ih1 _ _ _ _)
      | (with_reducible exact ih2 _ _ _)
      | (with_reducible exact LeO.refl _)
      | (with_reducible exact LeO.none _)
      | (with_reducible refine LeO.ite ?_ ?_)
      | (with_reducible refine LeO.bind ?_ (fun _ => ?_))
      | exact ih0 _ _ _
      | exact ih1 _ _ _ _
      | exact ih2 _ _ _
      | exact LeO.none _
      | refine LeO.ite ?_ ?_
      | refine LeO.bind ?_ (fun _ => ?_)
set_option maxHeartbeats 8000000 in
set_option maxRecDepth 100000 in
theorem pantryref02_Split.calls (k : Nat) (a0 : Int) (r1 : Int) (r2 : Int) (r3 : Int) (r4 : Int) (w : World) (h : pantryref02_Split.f k a0 = some (r1, r2, r3, r4)) :
    Calls Try.prog 13 #[.int .i64 a0] w fun e w' => e = .returned (.tuple #[.int .i64 r1, .int .i64 r2, .int .i64 r3, .int .i64 r4]) ∧ Below w.heap.size w w' := by
  have HB := Aside0.mk (Below.refl w.heap.size w)
  have H : (pantryref02_Split.l0 k a0 (wrap64 (Int.tdiv a0 86400)) 1970) = some (r1, r2, r3, r4) := h
  clear h
  have HC2 := Aside0.mk H
  clear H
  go_enter Try.func13, Try.ntmps13
  go_upto_block 0 with (fail)
  go_cut [6, 7] (fun v6 v7 wc => ∃ (kq : Nat) (x6_1 : Int) (x7_1 : Int), v6 = .int .i64 x6_1 ∧ v7 = .int .i64 x7_1 ∧ Aside0 (pantryref02_Split.j1 kq a0 x6_1 x7_1 = some (r1, r2, r3, r4)) ∧ Aside0 (kq ≤ k) ∧ Aside0 (Below w.heap.size w wc))
  case first =>
    have H := HC2.out
    clear HC2
    have H' := Aside0.mk H
    clear H
    go_wp2
    go_loopg [6, 7] k (fun kq v6 v7 w' => ∃ (x6_1 : Int) (x7_1 : Int), v6 = .int .i64 x6_1 ∧ v7 = .int .i64 x7_1 ∧ Aside0 (pantryref02_Split.l0 kq a0 x6_1 x7_1 = some (r1, r2, r3, r4)) ∧ Aside0 (kq ≤ k) ∧ Aside0 (Below w.heap.size w w'))
    case atStart => exact ⟨(wrap64 (Int.tdiv a0 86400)), (1970), (by first | rfl | (simp; done) | (simp [*]; done)), (by first | rfl | (simp; done) | (simp [*]; done)), H', ⟨Nat.le_refl _⟩, ⟨by repeat (first | (with_reducible first | exact HB.out | apply below_alloc | apply pw_below_drewN | apply below_drew1) | exact HB.out)⟩⟩
    case round =>
      clear H'
      try clear c1
      try clear p2
      obtain ⟨x6_1, x7_1, rfl, rfl, HA, HK1, HB⟩ := hrel
      cases gk with
      | zero => exact absurd HA.out (by simp [pantryref02_Split.l0])
      | succ k1 =>
        have H := HA.out
        clear HA
        simp only [pantryref02_Split.l0] at H
        replace H := Option.bind_eq_some_iff.mp H
        obtain ⟨t121, A30, H⟩ := H
        replace H : (if t121 = true then (if x6_1 < 366 then (pantryref02_Split.j1 k1 a0 x6_1 x7_1) else (pantryref02_Split.l0 k1 a0 (wrap64 (x6_1 - 366)) (wrap64 (x7_1 + 1)))) else (if x6_1 < 365 then (pantryref02_Split.j1 k1 a0 x6_1 x7_1) else (pantryref02_Split.l0 k1 a0 (wrap64 (x6_1 - 365)) (wrap64 (x7_1 + 1))))) = some (r1, r2, r3, r4) := H
        have A3 := Aside0.mk A30
        clear A30
        by_cases c4 : t121 = true
        · subst c4
          have H1 : (if x6_1 < 366 then (pantryref02_Split.j1 k1 a0 x6_1 x7_1) else (pantryref02_Split.l0 k1 a0 (wrap64 (x6_1 - 366)) (wrap64 (x7_1 + 1)))) = some (r1, r2, r3, r4) := by rw [if_pos rfl] at H; exact H
          clear H
          have H := H1
          clear H1
          by_cases c5 : x6_1 < 366
          · rw [if_pos c5] at H
            have c5b0 : decide (x6_1 < 366) = true := decide_eq_true c5
            clear c5
            (first | rw [c5b0] | (simp only [i64_w, i32_w]; rw [c5b0]) | skip)
            have H' := Aside0.mk H
            clear H
            go_wp2_with (first | ((with_reducible refine gate_callee (f := 20) rfl ?_); refine goesL_ (some 13) rfl rfl Try.func20 (by kernel_rfl) rfl #[.int .i64 x7_1] rfl (by (try simp only [List.map_toArray, List.map_cons, List.map_nil]); first | done | rfl | (simp only [List.length_drop, List.length_take]; rfl)) ?_; (with_reducible refine (pantryref02_Leap.calls x7_1 true _ A3.out).mono ?_); rintro e w' ⟨rfl, ⟨nd, rfl⟩⟩; refine ⟨_, rfl, ?_⟩))
            go_meet
            case rel => exact ⟨_, (x6_1), (x7_1), (by first | rfl | (simp; done) | (simp [*]; done)), (by first | rfl | (simp; done) | (simp [*]; done)), H', ⟨by have := HK1.out; first | omega | exact Nat.le_refl _⟩, ⟨by repeat (first | (with_reducible first | exact HB.out | apply below_alloc | apply pw_below_drewN | apply below_drew1) | exact HB.out)⟩⟩
          · rw [if_neg c5] at H
            have c5b0 : decide (x6_1 < 366) = false := decide_eq_false c5
            clear c5
            (first | rw [c5b0] | (simp only [i64_w, i32_w]; rw [c5b0]) | skip)
            have H' := Aside0.mk H
            clear H
            go_wp2_with (first | ((with_reducible refine gate_callee (f := 20) rfl ?_); refine goesL_ (some 13) rfl rfl Try.func20 (by kernel_rfl) rfl #[.int .i64 x7_1] rfl (by (try simp only [List.map_toArray, List.map_cons, List.map_nil]); first | done | rfl | (simp only [List.length_drop, List.length_take]; rfl)) ?_; (with_reducible refine (pantryref02_Leap.calls x7_1 true _ A3.out).mono ?_); rintro e w' ⟨rfl, ⟨nd, rfl⟩⟩; refine ⟨_, rfl, ?_⟩))
            go_roundg k1
            case measure => have := HK1.out; omega
            case rel => exact ⟨(wrap64 (x6_1 - 366)), (wrap64 (x7_1 + 1)), (by first | rfl | (simp; done) | (simp [*]; done)), (by first | rfl | (simp; done) | (simp [*]; done)), H', ⟨by have := HK1.out; omega⟩, ⟨by repeat (first | (with_reducible first | exact HB.out | apply below_alloc | apply pw_below_drewN | apply below_drew1) | exact HB.out)⟩⟩
        · replace c4 := Bool.eq_false_iff.mpr c4
          subst c4
          have H1 : (if x6_1 < 365 then (pantryref02_Split.j1 k1 a0 x6_1 x7_1) else (pantryref02_Split.l0 k1 a0 (wrap64 (x6_1 - 365)) (wrap64 (x7_1 + 1)))) = some (r1, r2, r3, r4) := by rw [if_neg (show ¬ (false = true) by decide)] at H; exact H
          clear H
          have H := H1
          clear H1
          by_cases c6 : x6_1 < 365
          · rw [if_pos c6] at H
            have c6b0 : decide (x6_1 < 365) = true := decide_eq_true c6
            clear c6
            have H' := Aside0.mk H
            clear H
            go_wp2_with (first | ((with_reducible refine gate_callee (f := 20) rfl ?_); refine goesL_ (some 13) rfl rfl Try.func20 (by kernel_rfl) rfl #[.int .i64 x7_1] rfl (by (try simp only [List.map_toArray, List.map_cons, List.map_nil]); first | done | rfl | (simp only [List.length_drop, List.length_take]; rfl)) ?_; (with_reducible refine (pantryref02_Leap.calls x7_1 false _ A3.out).mono ?_); rintro e w' ⟨rfl, ⟨nd, rfl⟩⟩; refine ⟨_, rfl, ?_⟩))
            go_meet
            case rel => exact ⟨_, (x6_1), (x7_1), (by first | rfl | (simp; done) | (simp [*]; done)), (by first | rfl | (simp; done) | (simp [*]; done)), H', ⟨by have := HK1.out; first | omega | exact Nat.le_refl _⟩, ⟨by repeat (first | (with_reducible first | exact HB.out | apply below_alloc | apply pw_below_drewN | apply below_drew1) | exact HB.out)⟩⟩
          · rw [if_neg c6] at H
            have c6b0 : decide (x6_1 < 365) = false := decide_eq_false c6
            clear c6
            have H' := Aside0.mk H
            clear H
            go_wp2_with (first | ((with_reducible refine gate_callee (f := 20) rfl ?_); refine goesL_ (some 13) rfl rfl Try.func20 (by kernel_rfl) rfl #[.int .i64 x7_1] rfl (by (try simp only [List.map_toArray, List.map_cons, List.map_nil]); first | done | rfl | (simp only [List.length_drop, List.length_take]; rfl)) ?_; (with_reducible refine (pantryref02_Leap.calls x7_1 false _ A3.out).mono ?_); rintro e w' ⟨rfl, ⟨nd, rfl⟩⟩; refine ⟨_, rfl, ?_⟩))
            go_roundg k1
            case measure => have := HK1.out; omega
            case rel => exact ⟨(wrap64 (x6_1 - 365)), (wrap64 (x7_1 + 1)), (by first | rfl | (simp; done) | (simp [*]; done)), (by first | rfl | (simp; done) | (simp [*]; done)), H', ⟨by have := HK1.out; omega⟩, ⟨by repeat (first | (with_reducible first | exact HB.out | apply below_alloc | apply pw_below_drewN | apply below_drew1) | exact HB.out)⟩⟩
  case rest =>
    clear HC2
    try clear c1
    try clear c2
    try clear p2
    try clear c4
    try clear c5
    try clear c5b0
    try clear c6
    try clear c6b0
    try clear p6
    try clear p2
    obtain ⟨kq, x6_1, x7_1, rfl, rfl, HA, HJ1, HB⟩ := hcut
    cases kq with
    | zero => exact absurd HA.out (by simp [pantryref02_Split.j1])
    | succ kj1 =>
      have H := HA.out
      clear HA
      simp only [pantryref02_Split.j1] at H
      have H' := Aside0.mk H
      clear H
      go_wp2
      go_loopg [6, 9] kj1 (fun kq v6 v9 w' => ∃ (x6_2 : Int) (x9_2 : Int), v6 = .int .i64 x6_2 ∧ v9 = .int .i64 x9_2 ∧ Aside0 (pantryref02_Split.l1 kq a0 x6_2 x7_1 x9_2 = some (r1, r2, r3, r4)) ∧ Aside0 (kq ≤ kj1) ∧ Aside0 (Below w.heap.size w w'))
      case atStart => exact ⟨(x6_1), (1), (by first | rfl | (simp; done) | (simp [*]; done)), (by first | rfl | (simp; done) | (simp [*]; done)), H', ⟨Nat.le_refl _⟩, ⟨by repeat (first | (with_reducible first | exact HB.out | apply below_alloc | apply pw_below_drewN | apply below_drew1) | exact HB.out)⟩⟩
      case round =>
        clear H'
        try clear c1
        try clear c2
        try clear p2
        try clear c4
        try clear c5
        try clear c5b0
        try clear c6
        try clear c6b0
        try clear p6
        try clear p2
        try clear p6
        obtain ⟨x6_2, x9_2, rfl, rfl, HA, HK2, HB⟩ := hrel
        cases gk with
        | zero => exact absurd HA.out (by simp [pantryref02_Split.l1])
        | succ k2 =>
          have H := HA.out
          clear HA
          simp only [pantryref02_Split.l1] at H
          replace H := Option.bind_eq_some_iff.mp H
          obtain ⟨t122, A70, H⟩ := H
          replace H : (if x6_2 ≥ t122 then ((pantryref02_Days.f x7_1 x9_2).bind fun t123 => (pantryref02_Split.l1 k2 a0 (wrap64 (x6_2 - t123)) x7_1 (wrap64 (x9_2 + 1)))) else (some (x7_1, x9_2, wrap64 (x6_2 + 1), Int.tmod a0 86400))) = some (r1, r2, r3, r4) := H
          have A7 := Aside0.mk A70
          clear A70
          by_cases c8 : x6_2 ≥ t122
          · rw [if_pos c8] at H
            have c8b0 : decide (t122 ≤ x6_2) = true := decide_eq_true c8
            clear c8
            replace H := Option.bind_eq_some_iff.mp H
            obtain ⟨t123, A90, H⟩ := H
            replace H : (pantryref02_Split.l1 k2 a0 (wrap64 (x6_2 - t123)) x7_1 (wrap64 (x9_2 + 1))) = some (r1, r2, r3, r4) := H
            have A9 := Aside0.mk A90
            clear A90
            have H' := Aside0.mk H
            clear H
            go_wp2_with (first | ((with_reducible refine gate_callee (f := 17) rfl ?_); refine goesL_ (some 25) rfl rfl Try.func17 (by kernel_rfl) rfl #[.int .i64 x7_1, .int .i64 x9_2] rfl (by (try simp only [List.map_toArray, List.map_cons, List.map_nil]); first | done | rfl | (simp only [List.length_drop, List.length_take]; rfl)) ?_; (with_reducible refine (pantryref02_Days.calls x7_1 x9_2 t122 _ A7.out).mono ?_); rintro e w10 ⟨rfl, hb⟩; refine ⟨_, rfl, ?_⟩; have n0_ := Aside0.mk (below_step (by repeat (first | (with_reducible first | exact HB.out | apply below_alloc | apply pw_below_drewN | apply below_drew1) | exact HB.out)) hb); clear HB; have HB := n0_; clear n0_; (try clear hb); (try clear hb2); (try clear hk); (try clear hi)) | ((with_reducible refine gate_callee (f := 17) rfl ?_); refine goesL_ (some 30) rfl rfl Try.func17 (by kernel_rfl) rfl #[.int .i64 x7_1, .int .i64 x9_2] rfl (by (try simp only [List.map_toArray, List.map_cons, List.map_nil]); first | done | rfl | (simp only [List.length_drop, List.length_take]; rfl)) ?_; (with_reducible refine (pantryref02_Days.calls x7_1 x9_2 t123 _ A9.out).mono ?_); rintro e w11 ⟨rfl, hb⟩; refine ⟨_, rfl, ?_⟩; have n0_ := Aside0.mk (below_step (by repeat (first | (with_reducible first | exact HB.out | apply below_alloc | apply pw_below_drewN | apply below_drew1) | exact HB.out)) hb); clear HB; have HB := n0_; clear n0_; (try clear hb); (try clear hb2); (try clear hk); (try clear hi)))
            go_roundg k2
            case measure => have := HJ1.out; have := HK2.out; omega
            case rel => exact ⟨(wrap64 (x6_2 - t123)), (wrap64 (x9_2 + 1)), (by first | rfl | (simp; done) | (simp [*]; done)), (by first | rfl | (simp; done) | (simp [*]; done)), H', ⟨by have := HJ1.out; have := HK2.out; omega⟩, ⟨by repeat (first | (with_reducible first | exact HB.out | apply below_alloc | apply pw_below_drewN | apply below_drew1) | exact HB.out)⟩⟩
          · rw [if_neg c8] at H
            have c8b0 : decide (t122 ≤ x6_2) = false := decide_eq_false c8
            clear c8
            simp only [Option.some.injEq, Prod.mk.injEq] at H
            obtain ⟨rfl, rfl, rfl, rfl⟩ := H
            go_wp2_with (first | ((with_reducible refine gate_callee (f := 17) rfl ?_); refine goesL_ (some 25) rfl rfl Try.func17 (by kernel_rfl) rfl #[.int .i64 x7_1, .int .i64 x9_2] rfl (by (try simp only [List.map_toArray, List.map_cons, List.map_nil]); first | done | rfl | (simp only [List.length_drop, List.length_take]; rfl)) ?_; (with_reducible refine (pantryref02_Days.calls x7_1 x9_2 t122 _ A7.out).mono ?_); rintro e w12 ⟨rfl, hb⟩; refine ⟨_, rfl, ?_⟩; have n0_ := Aside0.mk (below_step (by repeat (first | (with_reducible first | exact HB.out | apply below_alloc | apply pw_below_drewN | apply below_drew1) | exact HB.out)) hb); clear HB; have HB := n0_; clear n0_; (try clear hb); (try clear hb2); (try clear hk); (try clear hi)))
            refine bodyPost_ret (results_list (rs := [.tmp 2, .tmp 3, .tmp 4, .tmp 5]) rfl (by simp) (.tmp (.tmp (.tmp (.tmp .nil))))) rfl ?_
            exact ⟨by first | rfl | (generalize ByteArray.toList _ = l_; cases l_ <;> rfl) | (simp [errW_none, errW_some] <;> rfl) | (simp [*, errW_none, errW_some] <;> rfl), by repeat (first | (with_reducible first | exact HB.out | apply below_alloc | apply pw_below_drewN | apply below_drew1) | exact HB.out)⟩

/-! ### pantryref02_two: function 21 -/
def pantryref02_two.f (a0 : Int) : Option (ByteArray) := some (strOfNums (([(wrap64 (48 + (wrap64 (Int.tdiv a0 10)))) % 256, (wrap64 (48 + (Int.tmod a0 10))) % 256] : List Int)))
set_option maxHeartbeats 8000000 in
set_option maxRecDepth 100000 in
theorem pantryref02_two.calls (a0 : Int) (r : ByteArray) (w : World) (h : pantryref02_two.f a0 = some r) :
    Calls Try.prog 21 #[.int .i64 a0] w fun e w' => e = .returned (.string r) ∧ Below w.heap.size w w' := by
  have HB := Aside0.mk (Below.refl w.heap.size w)
  have H : (some (strOfNums (([(wrap64 (48 + (wrap64 (Int.tdiv a0 10)))) % 256, (wrap64 (48 + (Int.tmod a0 10))) % 256] : List Int)))) = some r := h
  clear h
  obtain ⟨y124, hy124⟩ : ∃ y_ : List Int, y_ = (([(wrap64 (48 + (wrap64 (Int.tdiv a0 10)))) % 256, (wrap64 (48 + (Int.tmod a0 10))) % 256] : List Int)) := ⟨_, rfl⟩
  replace H : (some (strOfNums y124)) = some r := by first | (rw [hy124]; with_reducible exact H) | (have H2_ := (Option.bind_some _ _).symm.trans H; rw [hy124]; with_reducible exact H2_) | (have H2_ := (Option.bind_some _ _).symm.trans H; with_reducible exact H2_) | with_reducible exact H | (rw [hy124]; exact H) | exact H
  have Ny124 := Aside0.mk hy124
  clear hy124
  obtain rfl := Option.some.inj H
  go_enter Try.func21, Try.ntmps21
  go_wp2_with (first | ((with_reducible refine gate_dst (N := 11) rfl ?_); refine Kd.R_lit (Kd.int .u8) _ 5 ?hg (N := 11) ?hd (xs := ([(wrap64 (48 + (wrap64 (Int.tdiv a0 10)))) % 256, (wrap64 (48 + (Int.tmod a0 10))) % 256] : List Int)) (inner := [.int .u8 ((wrap64 (48 + (wrap64 (Int.tdiv a0 10)))) % 256), .int .u8 ((wrap64 (48 + (Int.tmod a0 10))) % 256)]) (ok := fun _ => True) (okp := fun _ => True) ?hr ?hp (fun _ hk => hk) trivial (Below.refl _ _) (Nat.le_refl _) (by simp) ?_; (case hd => rfl); (case hg => rfl); (case hr => first | (go_simp; done) | (go_simp; rfl)); (case hp => exact (Reps.one (show Kd.M (Kd.int .u8) _ _ _ ((wrap64 (48 + (wrap64 (Int.tdiv a0 10)))) % 256) [.int .u8 ((wrap64 (48 + (wrap64 (Int.tdiv a0 10)))) % 256)] from rfl) (Reps.one (show Kd.M (Kd.int .u8) _ _ _ ((wrap64 (48 + (Int.tmod a0 10))) % 256) [.int .u8 ((wrap64 (48 + (Int.tmod a0 10))) % 256)] from rfl) (Reps.none _ _)))); intro v125 w2 ho3 hb hg_ hnew_; clear hg_ hnew_; (first | rw [← Ny124.out] at ho3 | (simp only [Int.reduceToNat] at ho3; rw [← Ny124.out] at ho3)); have n0_ := Aside0.mk (Kd.R_lower ho3 (below_size (by repeat (first | (with_reducible first | exact HB.out | apply below_alloc | apply pw_below_drewN | apply below_drew1) | exact HB.out)))); have n1_ := Aside0.mk (below_step (by repeat (first | (with_reducible first | exact HB.out | apply below_alloc | apply pw_below_drewN | apply below_drew1) | exact HB.out)) hb); clear HB; have HO126 := n0_; have HB := n1_; clear n0_ n1_; clear hb ho3; have hcv4 := own_string (P := Try.prog) Try.underlying34 Try.underlying5 Try.underlying9 (Kd.own_of_R HO126.out)))
  go_ret
  exact ⟨by first | rfl | (generalize ByteArray.toList _ = l_; cases l_ <;> rfl) | (simp [errW_none, errW_some] <;> rfl) | (simp [*, errW_none, errW_some] <;> rfl), by repeat (first | (with_reducible first | exact HB.out | apply below_alloc | apply pw_below_drewN | apply below_drew1) | exact HB.out)⟩

/-! ### pantryref02_Show: function 14, by hand -/
def rtwo (n : Int) : ByteArray := (pantryref02_two.f n).getD ⟨#[]⟩
theorem two_any (n : Int) (w : World) : Calls Try.prog 21 #[.int .i64 n] w fun e w' => e = .returned (.string (rtwo n)) ∧ Below w.heap.size w w' :=
  pantryref02_two.calls n (rtwo n) w rfl
theorem rtwo_size (n : Int) : (rtwo n).size = 2 := by
  unfold rtwo pantryref02_two.f strOfNums
  rfl
theorem szA : (⟨#[44, 32]⟩ : ByteArray).size = 2 := rfl
theorem szB : (⟨#[32]⟩ : ByteArray).size = 1 := rfl
theorem szC : (⟨#[58]⟩ : ByteArray).size = 1 := rfl
theorem szD : (⟨#[32, 71, 77, 84]⟩ : ByteArray).size = 4 := rfl
def refWeek : Array Value := #[.string ⟨#[84, 104, 117]⟩, .string ⟨#[70, 114, 105]⟩, .string ⟨#[83, 97, 116]⟩, .string ⟨#[83, 117, 110]⟩, .string ⟨#[77, 111, 110]⟩, .string ⟨#[84, 117, 101]⟩, .string ⟨#[87, 101, 100]⟩]
def refMonth : Array Value := #[.string ⟨#[]⟩, .string ⟨#[74, 97, 110]⟩, .string ⟨#[70, 101, 98]⟩, .string ⟨#[77, 97, 114]⟩, .string ⟨#[65, 112, 114]⟩, .string ⟨#[77, 97, 121]⟩, .string ⟨#[74, 117, 110]⟩, .string ⟨#[74, 117, 108]⟩, .string ⟨#[65, 117, 103]⟩, .string ⟨#[83, 101, 112]⟩, .string ⟨#[79, 99, 116]⟩, .string ⟨#[78, 111, 118]⟩, .string ⟨#[68, 101, 99]⟩]
def weekAt (q : Nat) : ByteArray := weekB.extract (q * 3) (q * 3 + 3)
def monthAt (m : Nat) : ByteArray := monthB.extract (3 * m - 3) (3 * m - 3 + 3)
theorem refWeek_at (q : Nat) (h : q ≤ 6) : refWeek[q]? = some (.string (weekAt q)) := by
  rcases q with _ | _ | _ | _ | _ | _ | _ | q
  any_goals rfl
  omega
theorem refMonth_at (m : Nat) (h0 : 1 ≤ m) (h : m ≤ 12) : refMonth[m]? = some (.string (monthAt m)) := by
  rcases m with _ | _ | _ | _ | _ | _ | _ | _ | _ | _ | _ | _ | _ | m
  · omega
  any_goals rfl
  omega
def refShowB (t y m d r : Int) : ByteArray := weekAt (t / 86400 % 7).toNat ++ ⟨#[44, 32]⟩ ++ (rtwo d) ++ ⟨#[32]⟩ ++ monthAt m.toNat ++ ⟨#[32]⟩ ++ (rtwo (y / 100)) ++ (rtwo (y % 100)) ++ ⟨#[32]⟩ ++ (rtwo (r / 3600)) ++ ⟨#[58]⟩ ++ (rtwo (r / 60 % 60)) ++ ⟨#[58]⟩ ++ (rtwo (r % 60)) ++ ⟨#[32, 71, 77, 84]⟩
def pantryref02_Show.f (k : Nat) (a0 : Int) : Option ByteArray :=
  (pantryref02_Split.f k a0).bind fun b => if ShowOk a0 b.1 b.2.1 b.2.2.1 b.2.2.2 then some (refShowB a0 b.1 b.2.1 b.2.2.1 b.2.2.2) else none
theorem pantryref02_Show.mono : ∀ a0 k, LeO (pantryref02_Show.f k a0) (pantryref02_Show.f (k + 1) a0) := by
  intro a0 k
  unfold pantryref02_Show.f
  exact LeO.bind (pantryref02_Split.mono _ _) (fun _ => LeO.refl _)
theorem run_adds {P : Program} (a b : ByteArray) (n : Nat) (ha : a.size ≤ n) (hb : b.size ≤ 4) (hn : n ≤ 100) (W : World) : (Op.stringOp .add a b).run P W = .ok (.string (a ++ b)) W := run_string_add_sum W a b (by omega)
set_option maxHeartbeats 4000000 in
set_option maxRecDepth 100000 in
theorem pantryref02_Show.calls (k : Nat) (a0 : Int) (r1 : ByteArray) (w : World) (h : pantryref02_Show.f k a0 = some r1) :
    Calls Try.prog 14 #[.int .i64 a0] w fun e w' => e = .returned (.string r1) ∧ Below w.heap.size w w' := by
  unfold pantryref02_Show.f at h
  cases hs : pantryref02_Split.f k a0 with
  | none => rw [hs] at h; simp at h
  | some b =>
    obtain ⟨y, m, d, r⟩ := b
    rw [hs] at h
    simp only [Option.bind_some] at h
    have HS := Aside0.mk hs
    clear hs
    by_cases hok : ShowOk a0 y m d r
    · rw [if_pos hok] at h
      have h' := Option.some.inj h
      clear h
      obtain ⟨⟨ht0, ht1⟩, ⟨hy0, hy1⟩, ⟨hm0, hm1⟩, ⟨hd0, hd1⟩, hr0, hr1⟩ := hok
      obtain ⟨m, rfl⟩ := Int.eq_ofNat_of_zero_le (show 0 ≤ m by omega)
      obtain ⟨q, hq⟩ := Int.eq_ofNat_of_zero_le (show 0 ≤ a0 / 86400 % 7 by omega)
      have hq6 : q ≤ 6 := by omega
      have hm1' : m ≤ 12 := by omega
      have hm0' : 1 ≤ m := by omega
      unfold refShowB at h'
      rw [hq, Int.toNat_natCast, Int.toNat_natCast] at h'
      have hwk : (weekAt q).size ≤ 3 := by unfold weekAt; rw [ByteArray.size_extract]; omega
      have hmo : (monthAt m).size ≤ 4 := by unfold monthAt; rw [ByteArray.size_extract]; omega
      have cW := refWeek_at q hq6
      have cM := refMonth_at m hm0' hm1'
      generalize weekAt q = wk at *
      generalize monthAt m = mo at *
      subst h'
      have HQ := Aside0.mk hq
      clear hq
      have hszw := hwk
      have hszm := hmo
      have k1 : ∀ W, (Op.stringOp .add wk ⟨#[44, 32]⟩).run Try.prog W = .ok (.string (wk ++ ⟨#[44, 32]⟩)) W := fun W => run_adds _ _ 60 (by first | omega | (simp only [ByteArray.size_append, rtwo_size, szA, szB, szC]; omega)) (by first | (rw [rtwo_size]; omega) | (simp only [szA, szB, szC, szD]; omega) | omega) (by omega) W
      have k2 : ∀ W, (Op.stringOp .add (wk ++ ⟨#[44, 32]⟩) (rtwo d)).run Try.prog W = .ok (.string (wk ++ ⟨#[44, 32]⟩ ++ (rtwo d))) W := fun W => run_adds _ _ 60 (by first | omega | (simp only [ByteArray.size_append, rtwo_size, szA, szB, szC]; omega)) (by first | (rw [rtwo_size]; omega) | (simp only [szA, szB, szC, szD]; omega) | omega) (by omega) W
      have k3 : ∀ W, (Op.stringOp .add (wk ++ ⟨#[44, 32]⟩ ++ (rtwo d)) ⟨#[32]⟩).run Try.prog W = .ok (.string (wk ++ ⟨#[44, 32]⟩ ++ (rtwo d) ++ ⟨#[32]⟩)) W := fun W => run_adds _ _ 60 (by first | omega | (simp only [ByteArray.size_append, rtwo_size, szA, szB, szC]; omega)) (by first | (rw [rtwo_size]; omega) | (simp only [szA, szB, szC, szD]; omega) | omega) (by omega) W
      have k4 : ∀ W, (Op.stringOp .add (wk ++ ⟨#[44, 32]⟩ ++ (rtwo d) ++ ⟨#[32]⟩) mo).run Try.prog W = .ok (.string (wk ++ ⟨#[44, 32]⟩ ++ (rtwo d) ++ ⟨#[32]⟩ ++ mo)) W := fun W => run_adds _ _ 60 (by first | omega | (simp only [ByteArray.size_append, rtwo_size, szA, szB, szC]; omega)) (by first | (rw [rtwo_size]; omega) | (simp only [szA, szB, szC, szD]; omega) | omega) (by omega) W
      have k5 : ∀ W, (Op.stringOp .add (wk ++ ⟨#[44, 32]⟩ ++ (rtwo d) ++ ⟨#[32]⟩ ++ mo) ⟨#[32]⟩).run Try.prog W = .ok (.string (wk ++ ⟨#[44, 32]⟩ ++ (rtwo d) ++ ⟨#[32]⟩ ++ mo ++ ⟨#[32]⟩)) W := fun W => run_adds _ _ 60 (by first | omega | (simp only [ByteArray.size_append, rtwo_size, szA, szB, szC]; omega)) (by first | (rw [rtwo_size]; omega) | (simp only [szA, szB, szC, szD]; omega) | omega) (by omega) W
      have k6 : ∀ W, (Op.stringOp .add (wk ++ ⟨#[44, 32]⟩ ++ (rtwo d) ++ ⟨#[32]⟩ ++ mo ++ ⟨#[32]⟩) (rtwo (y / 100))).run Try.prog W = .ok (.string (wk ++ ⟨#[44, 32]⟩ ++ (rtwo d) ++ ⟨#[32]⟩ ++ mo ++ ⟨#[32]⟩ ++ (rtwo (y / 100)))) W := fun W => run_adds _ _ 60 (by first | omega | (simp only [ByteArray.size_append, rtwo_size, szA, szB, szC]; omega)) (by first | (rw [rtwo_size]; omega) | (simp only [szA, szB, szC, szD]; omega) | omega) (by omega) W
      have k7 : ∀ W, (Op.stringOp .add (wk ++ ⟨#[44, 32]⟩ ++ (rtwo d) ++ ⟨#[32]⟩ ++ mo ++ ⟨#[32]⟩ ++ (rtwo (y / 100))) (rtwo (y % 100))).run Try.prog W = .ok (.string (wk ++ ⟨#[44, 32]⟩ ++ (rtwo d) ++ ⟨#[32]⟩ ++ mo ++ ⟨#[32]⟩ ++ (rtwo (y / 100)) ++ (rtwo (y % 100)))) W := fun W => run_adds _ _ 60 (by first | omega | (simp only [ByteArray.size_append, rtwo_size, szA, szB, szC]; omega)) (by first | (rw [rtwo_size]; omega) | (simp only [szA, szB, szC, szD]; omega) | omega) (by omega) W
      have k8 : ∀ W, (Op.stringOp .add (wk ++ ⟨#[44, 32]⟩ ++ (rtwo d) ++ ⟨#[32]⟩ ++ mo ++ ⟨#[32]⟩ ++ (rtwo (y / 100)) ++ (rtwo (y % 100))) ⟨#[32]⟩).run Try.prog W = .ok (.string (wk ++ ⟨#[44, 32]⟩ ++ (rtwo d) ++ ⟨#[32]⟩ ++ mo ++ ⟨#[32]⟩ ++ (rtwo (y / 100)) ++ (rtwo (y % 100)) ++ ⟨#[32]⟩)) W := fun W => run_adds _ _ 60 (by first | omega | (simp only [ByteArray.size_append, rtwo_size, szA, szB, szC]; omega)) (by first | (rw [rtwo_size]; omega) | (simp only [szA, szB, szC, szD]; omega) | omega) (by omega) W
      have k9 : ∀ W, (Op.stringOp .add (wk ++ ⟨#[44, 32]⟩ ++ (rtwo d) ++ ⟨#[32]⟩ ++ mo ++ ⟨#[32]⟩ ++ (rtwo (y / 100)) ++ (rtwo (y % 100)) ++ ⟨#[32]⟩) (rtwo (r / 3600))).run Try.prog W = .ok (.string (wk ++ ⟨#[44, 32]⟩ ++ (rtwo d) ++ ⟨#[32]⟩ ++ mo ++ ⟨#[32]⟩ ++ (rtwo (y / 100)) ++ (rtwo (y % 100)) ++ ⟨#[32]⟩ ++ (rtwo (r / 3600)))) W := fun W => run_adds _ _ 60 (by first | omega | (simp only [ByteArray.size_append, rtwo_size, szA, szB, szC]; omega)) (by first | (rw [rtwo_size]; omega) | (simp only [szA, szB, szC, szD]; omega) | omega) (by omega) W
      have k10 : ∀ W, (Op.stringOp .add (wk ++ ⟨#[44, 32]⟩ ++ (rtwo d) ++ ⟨#[32]⟩ ++ mo ++ ⟨#[32]⟩ ++ (rtwo (y / 100)) ++ (rtwo (y % 100)) ++ ⟨#[32]⟩ ++ (rtwo (r / 3600))) ⟨#[58]⟩).run Try.prog W = .ok (.string (wk ++ ⟨#[44, 32]⟩ ++ (rtwo d) ++ ⟨#[32]⟩ ++ mo ++ ⟨#[32]⟩ ++ (rtwo (y / 100)) ++ (rtwo (y % 100)) ++ ⟨#[32]⟩ ++ (rtwo (r / 3600)) ++ ⟨#[58]⟩)) W := fun W => run_adds _ _ 60 (by first | omega | (simp only [ByteArray.size_append, rtwo_size, szA, szB, szC]; omega)) (by first | (rw [rtwo_size]; omega) | (simp only [szA, szB, szC, szD]; omega) | omega) (by omega) W
      have k11 : ∀ W, (Op.stringOp .add (wk ++ ⟨#[44, 32]⟩ ++ (rtwo d) ++ ⟨#[32]⟩ ++ mo ++ ⟨#[32]⟩ ++ (rtwo (y / 100)) ++ (rtwo (y % 100)) ++ ⟨#[32]⟩ ++ (rtwo (r / 3600)) ++ ⟨#[58]⟩) (rtwo (r / 60 % 60))).run Try.prog W = .ok (.string (wk ++ ⟨#[44, 32]⟩ ++ (rtwo d) ++ ⟨#[32]⟩ ++ mo ++ ⟨#[32]⟩ ++ (rtwo (y / 100)) ++ (rtwo (y % 100)) ++ ⟨#[32]⟩ ++ (rtwo (r / 3600)) ++ ⟨#[58]⟩ ++ (rtwo (r / 60 % 60)))) W := fun W => run_adds _ _ 60 (by first | omega | (simp only [ByteArray.size_append, rtwo_size, szA, szB, szC]; omega)) (by first | (rw [rtwo_size]; omega) | (simp only [szA, szB, szC, szD]; omega) | omega) (by omega) W
      have k12 : ∀ W, (Op.stringOp .add (wk ++ ⟨#[44, 32]⟩ ++ (rtwo d) ++ ⟨#[32]⟩ ++ mo ++ ⟨#[32]⟩ ++ (rtwo (y / 100)) ++ (rtwo (y % 100)) ++ ⟨#[32]⟩ ++ (rtwo (r / 3600)) ++ ⟨#[58]⟩ ++ (rtwo (r / 60 % 60))) ⟨#[58]⟩).run Try.prog W = .ok (.string (wk ++ ⟨#[44, 32]⟩ ++ (rtwo d) ++ ⟨#[32]⟩ ++ mo ++ ⟨#[32]⟩ ++ (rtwo (y / 100)) ++ (rtwo (y % 100)) ++ ⟨#[32]⟩ ++ (rtwo (r / 3600)) ++ ⟨#[58]⟩ ++ (rtwo (r / 60 % 60)) ++ ⟨#[58]⟩)) W := fun W => run_adds _ _ 60 (by first | omega | (simp only [ByteArray.size_append, rtwo_size, szA, szB, szC]; omega)) (by first | (rw [rtwo_size]; omega) | (simp only [szA, szB, szC, szD]; omega) | omega) (by omega) W
      have k13 : ∀ W, (Op.stringOp .add (wk ++ ⟨#[44, 32]⟩ ++ (rtwo d) ++ ⟨#[32]⟩ ++ mo ++ ⟨#[32]⟩ ++ (rtwo (y / 100)) ++ (rtwo (y % 100)) ++ ⟨#[32]⟩ ++ (rtwo (r / 3600)) ++ ⟨#[58]⟩ ++ (rtwo (r / 60 % 60)) ++ ⟨#[58]⟩) (rtwo (r % 60))).run Try.prog W = .ok (.string (wk ++ ⟨#[44, 32]⟩ ++ (rtwo d) ++ ⟨#[32]⟩ ++ mo ++ ⟨#[32]⟩ ++ (rtwo (y / 100)) ++ (rtwo (y % 100)) ++ ⟨#[32]⟩ ++ (rtwo (r / 3600)) ++ ⟨#[58]⟩ ++ (rtwo (r / 60 % 60)) ++ ⟨#[58]⟩ ++ (rtwo (r % 60)))) W := fun W => run_adds _ _ 60 (by first | omega | (simp only [ByteArray.size_append, rtwo_size, szA, szB, szC]; omega)) (by first | (rw [rtwo_size]; omega) | (simp only [szA, szB, szC, szD]; omega) | omega) (by omega) W
      have k14 : ∀ W, (Op.stringOp .add (wk ++ ⟨#[44, 32]⟩ ++ (rtwo d) ++ ⟨#[32]⟩ ++ mo ++ ⟨#[32]⟩ ++ (rtwo (y / 100)) ++ (rtwo (y % 100)) ++ ⟨#[32]⟩ ++ (rtwo (r / 3600)) ++ ⟨#[58]⟩ ++ (rtwo (r / 60 % 60)) ++ ⟨#[58]⟩ ++ (rtwo (r % 60))) ⟨#[32, 71, 77, 84]⟩).run Try.prog W = .ok (.string (wk ++ ⟨#[44, 32]⟩ ++ (rtwo d) ++ ⟨#[32]⟩ ++ mo ++ ⟨#[32]⟩ ++ (rtwo (y / 100)) ++ (rtwo (y % 100)) ++ ⟨#[32]⟩ ++ (rtwo (r / 3600)) ++ ⟨#[58]⟩ ++ (rtwo (r / 60 % 60)) ++ ⟨#[58]⟩ ++ (rtwo (r % 60)) ++ ⟨#[32, 71, 77, 84]⟩)) W := fun W => run_adds _ _ 60 (by first | omega | (simp only [ByteArray.size_append, rtwo_size, szA, szB, szC]; omega)) (by first | (rw [rtwo_size]; omega) | (simp only [szA, szB, szC, szD]; omega) | omega) (by omega) W
      go_enter Try.func14, Try.ntmps14
      go_wp2_with (go_at_call 13; refine (pantryref02_Split.calls k a0 y m d r w HS.out).mono ?_; rintro e w' ⟨rfl, hb0⟩)
      have hq := HQ.out
      have hq0 : (0 : Int) ≤ (q : Int) := by omega
      have hq7 : (q : Int) < 7 := by omega
      have hm7 : (m : Int) < 13 := by omega
      have hc7 : ((w'.alloc (.cells #[.string ⟨#[84, 104, 117]⟩, .string ⟨#[70, 114, 105]⟩, .string ⟨#[83, 97, 116]⟩, .string ⟨#[83, 117, 110]⟩, .string ⟨#[77, 111, 110]⟩, .string ⟨#[84, 117, 101]⟩, .string ⟨#[87, 101, 100]⟩] 42)).alloc (.cells #[.string ⟨#[]⟩, .string ⟨#[74, 97, 110]⟩, .string ⟨#[70, 101, 98]⟩, .string ⟨#[77, 97, 114]⟩, .string ⟨#[65, 112, 114]⟩, .string ⟨#[77, 97, 121]⟩, .string ⟨#[74, 117, 110]⟩, .string ⟨#[74, 117, 108]⟩, .string ⟨#[65, 117, 103]⟩, .string ⟨#[83, 101, 112]⟩, .string ⟨#[79, 99, 116]⟩, .string ⟨#[78, 111, 118]⟩, .string ⟨#[68, 101, 99]⟩] 43)).cell? ⟨w'.heap.size, q, none⟩ = some (.string wk) := by
        rw [Lib.cell_of_heap ((Lib.alloc_old _ _ _ (by simp)).trans (heap_alloc_new w' _))]
        exact cW
      have hc13 : ((w'.alloc (.cells #[.string ⟨#[84, 104, 117]⟩, .string ⟨#[70, 114, 105]⟩, .string ⟨#[83, 97, 116]⟩, .string ⟨#[83, 117, 110]⟩, .string ⟨#[77, 111, 110]⟩, .string ⟨#[84, 117, 101]⟩, .string ⟨#[87, 101, 100]⟩] 42)).alloc (.cells #[.string ⟨#[]⟩, .string ⟨#[74, 97, 110]⟩, .string ⟨#[70, 101, 98]⟩, .string ⟨#[77, 97, 114]⟩, .string ⟨#[65, 112, 114]⟩, .string ⟨#[77, 97, 121]⟩, .string ⟨#[74, 117, 110]⟩, .string ⟨#[74, 117, 108]⟩, .string ⟨#[65, 117, 103]⟩, .string ⟨#[83, 101, 112]⟩, .string ⟨#[79, 99, 116]⟩, .string ⟨#[78, 111, 118]⟩, .string ⟨#[68, 101, 99]⟩] 43)).cell? ⟨w'.heap.size + 1, m, none⟩ = some (.string mo) := by
        have := heap_alloc_new (w'.alloc (.cells refWeek 42)) (.cells refMonth 43)
        rw [show (w'.alloc (.cells refWeek 42)).heap.size = w'.heap.size + 1 by simp] at this
        exact (Lib.cell_of_heap this m).trans cM
      have hbz : Below w.heap.size w ((w'.alloc (.cells #[.string ⟨#[84, 104, 117]⟩, .string ⟨#[70, 114, 105]⟩, .string ⟨#[83, 97, 116]⟩, .string ⟨#[83, 117, 110]⟩, .string ⟨#[77, 111, 110]⟩, .string ⟨#[84, 117, 101]⟩, .string ⟨#[87, 101, 100]⟩] 42)).alloc (.cells #[.string ⟨#[]⟩, .string ⟨#[74, 97, 110]⟩, .string ⟨#[70, 101, 98]⟩, .string ⟨#[77, 97, 114]⟩, .string ⟨#[65, 112, 114]⟩, .string ⟨#[77, 97, 121]⟩, .string ⟨#[74, 117, 110]⟩, .string ⟨#[74, 117, 108]⟩, .string ⟨#[65, 117, 103]⟩, .string ⟨#[83, 101, 112]⟩, .string ⟨#[79, 99, 116]⟩, .string ⟨#[78, 111, 118]⟩, .string ⟨#[68, 101, 99]⟩] 43)) := (hb0.alloc hb0.size _).alloc (by have := hb0.size; simp; omega) _
      generalize ((w'.alloc (.cells #[.string ⟨#[84, 104, 117]⟩, .string ⟨#[70, 114, 105]⟩, .string ⟨#[83, 97, 116]⟩, .string ⟨#[83, 117, 110]⟩, .string ⟨#[77, 111, 110]⟩, .string ⟨#[84, 117, 101]⟩, .string ⟨#[87, 101, 100]⟩] 42)).alloc (.cells #[.string ⟨#[]⟩, .string ⟨#[74, 97, 110]⟩, .string ⟨#[70, 101, 98]⟩, .string ⟨#[77, 97, 114]⟩, .string ⟨#[65, 112, 114]⟩, .string ⟨#[77, 97, 121]⟩, .string ⟨#[74, 117, 110]⟩, .string ⟨#[74, 117, 108]⟩, .string ⟨#[65, 117, 103]⟩, .string ⟨#[83, 101, 112]⟩, .string ⟨#[79, 99, 116]⟩, .string ⟨#[78, 111, 118]⟩, .string ⟨#[68, 101, 99]⟩] 43)) = wz at *
      have e20 : a0.tdiv 86400 = a0 / 86400 := Int.tdiv_eq_ediv_of_nonneg ht0
      have e20w : IntKind.i64.wrap (a0 / 86400) = a0 / 86400 := IntWalk.i64_in _ (by omega)
      have e21 : (a0 / 86400).tmod 7 = (q : Int) := by rw [Int.tmod_eq_emod_of_nonneg (by omega)]; exact hq
      have e35 : y.tdiv 100 = y / 100 := Int.tdiv_eq_ediv_of_nonneg hy0
      have e35w : IntKind.i64.wrap (y / 100) = y / 100 := IntWalk.i64_in _ (by omega)
      have e39 : y.tmod 100 = y % 100 := Int.tmod_eq_emod_of_nonneg hy0
      go_region_held3 (fun W => W.cell? ⟨w'.heap.size, q, none⟩ = some (.string wk) ∧ W.cell? ⟨w'.heap.size + 1, m, none⟩ = some (.string mo) ∧ Below w.heap.size w W)
        (first | (go_split_ands; exact ⟨pw_cell_below hbt (by assumption), pw_cell_below hbt (by assumption), below_then (by assumption) (Below.size (by assumption)) hbt⟩) | exact ⟨(by assumption : _), (by assumption : _), below_drew (by assumption)⟩ | go_keep)
        (first | (go_at_call 21; refine (two_any _ _).mono ?_; rintro e w9 ⟨rfl, hbt⟩))
      go_split_ands
      have HBQ : Aside0 (Below w.heap.size w _) := Aside0.mk (by assumption)
      have f45 : 0 ≤ r / 3600 := by omega
      have f50 : 0 ≤ r / 60 := by omega
      clear hc7 hc13
      go_wp2_with fail
      refine (two_any _ _).mono ?_
      rintro e wa ⟨rfl, hba⟩
      have HB1 := Aside0.mk (below_then HBQ.out HBQ.out.size hba)
      go_wp2_with fail
      refine (two_any _ _).mono ?_
      rintro e wb ⟨rfl, hbb⟩
      have HB2 := Aside0.mk (below_then HB1.out HB1.out.size hbb)
      go_wp2_with fail
      refine (two_any _ _).mono ?_
      rintro e wc ⟨rfl, hbc⟩
      go_wp2
      go_ret
      exact ⟨rfl, below_then HB2.out HB2.out.size hbc⟩
    · rw [if_neg hok] at h
      cases h

/-! ### pantrylaw02_DateShows: function 3 -/
def pantrylaw02_DateShows.j0 : Nat → Int → ByteArray → Int → Int → Int → Int → Int → Int → Bool → Option (Bool)
  | 0, _, _, _, _, _, _, _, _, _ => none
  | k + 1, x0, x3, x4, x5, x6, x7, x8, x9, x34 => if x34 = true then (if x4 = 11 then (if x9 = 11 then (if x3.toList = ([] : List UInt8) then (if x5 = 0 then (if x6 = 0 then (if x7 = 0 then (some (x8 == 0)) else (some false)) else (some false)) else (some false)) else (some false)) else (some false)) else (some false)) else ((pantryref02_Split.f k x0).bind fun bt135 => (if x4 = 0 then (if x9 = 0 then ((pantryref02_Show.f k x0).bind fun t139 => (if x3.toList = t139.toList then (if x5 = bt135.1 then (if x6 = bt135.2.1 then (if x7 = bt135.2.2.1 then (some (x8 == bt135.2.2.2)) else (some false)) else (some false)) else (some false)) else (some false))) else (some false)) else (some false)))
def pantrylaw02_DateShows.f (k : Nat) (a0 : Int) : Option (Bool) := (pantrylaw02_anchor.f k).bind fun t127 => (if t127 = true then ((date_Show.f k a0).bind fun bt128 => ((date_Split.f k a0).bind fun bt130 => (if a0 < 0 then (pantrylaw02_DateShows.j0 k a0 bt128.1 bt128.2 bt130.1 bt130.2.1 bt130.2.2.1 bt130.2.2.2.1 bt130.2.2.2.2 true) else (pantrylaw02_DateShows.j0 k a0 bt128.1 bt128.2 bt130.1 bt130.2.1 bt130.2.2.1 bt130.2.2.2.1 bt130.2.2.2.2 (decide (a0 > 253402300799)))))) else (some false))
theorem pantrylaw02_DateShows.mono_l : ∀ k, (∀ y0 y1 y2 y3 y4 y5 y6 y7 y8, LeO (pantrylaw02_DateShows.j0 k y0 y1 y2 y3 y4 y5 y6 y7 y8) (pantrylaw02_DateShows.j0 (k + 1) y0 y1 y2 y3 y4 y5 y6 y7 y8))
  | 0 => fun _ _ _ _ _ _ _ _ _ r h => by simp [pantrylaw02_DateShows.j0] at h
  | k + 1 => by
    have ih0 := pantrylaw02_DateShows.mono_l k
    · intro y0 y1 y2 y3 y4 y5 y6 y7 y8
      unfold pantrylaw02_DateShows.j0
      repeat' first
      | (with_reducible exact ih0 _ _ _ _ _ _ _ _ _)
      | (with_reducible exact date_Show.mono _ _)
      | (with_reducible exact date_Split.mono _ _)
      | (with_reducible exact pantrylaw02_anchor.mono _)
      | (with_reducible exact pantryref02_Show.mono _ _)
      | (with_reducible exact pantryref02_Split.mono _ _)
      | (with_reducible exact LeO.refl _)
      | (with_reducible exact LeO.none _)
      | (with_reducible refine LeO.ite ?_ ?_)
      | (with_reducible refine LeO.bind ?_ (fun _ => ?_))
      | exact ih0 _ _ _ _ _ _ _ _ _
      | exact date_Show.mono _ _
      | exact date_Split.mono _ _
      | exact pantrylaw02_anchor.mono _
      | exact pantryref02_Show.mono _ _
      | exact pantryref02_Split.mono _ _
      | exact LeO.none _
      | refine LeO.ite ?_ ?_
      | refine LeO.bind ?_ (fun _ => ?_)
theorem pantrylaw02_DateShows.mono : ∀ a0 k, LeO (pantrylaw02_DateShows.f k a0) (pantrylaw02_DateShows.f (k + 1) a0) := by
  intro a0 k
  have ih0 := pantrylaw02_DateShows.mono_l k
  unfold pantrylaw02_DateShows.f
  repeat' first
      | (with_reducible exact ih0 _ _ _ _ _ _ _ _ _)
      | (with_reducible exact date_Show.mono _ _)
      | (with_reducible exact date_Split.mono _ _)
      | (with_reducible exact pantrylaw02_anchor.mono _)
      | (with_reducible exact pantryref02_Show.mono _ _)
      | (with_reducible exact pantryref02_Split.mono _ _)
      | (with_reducible exact LeO.refl _)
      | (with_reducible exact LeO.none _)
      | (with_reducible refine LeO.ite ?_ ?_)
      | (with_reducible refine LeO.bind ?_ (fun _ => ?_))
      | exact ih0 _ _ _ _ _ _ _ _ _
      | exact date_Show.mono _ _
      | exact date_Split.mono _ _
      | exact pantrylaw02_anchor.mono _
      | exact pantryref02_Show.mono _ _
      | exact pantryref02_Split.mono _ _
      | exact LeO.none _
      | refine LeO.ite ?_ ?_
      | refine LeO.bind ?_ (fun _ => ?_)
set_option maxHeartbeats 8000000 in
set_option maxRecDepth 100000 in
theorem pantrylaw02_DateShows.calls (k : Nat) (a0 : Int) (r : Bool) (w : World) (hrW : WF w) (h : pantrylaw02_DateShows.f k a0 = some r) :
    Calls Try.prog 3 #[.int .i64 a0] w fun e w' => e = .returned (.bool r) ∧ Below w.heap.size w w' := by
  have HRW := Aside0.mk hrW
  clear hrW
  have HB := Aside0.mk (Below.refl w.heap.size w)
  have H : ((pantrylaw02_anchor.f k).bind fun t127 => (if t127 = true then ((date_Show.f k a0).bind fun bt128 => ((date_Split.f k a0).bind fun bt130 => (if a0 < 0 then (pantrylaw02_DateShows.j0 k a0 bt128.1 bt128.2 bt130.1 bt130.2.1 bt130.2.2.1 bt130.2.2.2.1 bt130.2.2.2.2 true) else (pantrylaw02_DateShows.j0 k a0 bt128.1 bt128.2 bt130.1 bt130.2.1 bt130.2.2.1 bt130.2.2.2.1 bt130.2.2.2.2 (decide (a0 > 253402300799)))))) else (some false))) = some r := h
  clear h
  replace H := Option.bind_eq_some_iff.mp H
  obtain ⟨t127, A20, H⟩ := H
  replace H : (if t127 = true then ((date_Show.f k a0).bind fun bt128 => ((date_Split.f k a0).bind fun bt130 => (if a0 < 0 then (pantrylaw02_DateShows.j0 k a0 bt128.1 bt128.2 bt130.1 bt130.2.1 bt130.2.2.1 bt130.2.2.2.1 bt130.2.2.2.2 true) else (pantrylaw02_DateShows.j0 k a0 bt128.1 bt128.2 bt130.1 bt130.2.1 bt130.2.2.1 bt130.2.2.2.1 bt130.2.2.2.2 (decide (a0 > 253402300799)))))) else (some false)) = some r := H
  have A2 := Aside0.mk A20
  clear A20
  by_cases c3 : t127 = true
  · subst c3
    have H1 : ((date_Show.f k a0).bind fun bt128 => ((date_Split.f k a0).bind fun bt130 => (if a0 < 0 then (pantrylaw02_DateShows.j0 k a0 bt128.1 bt128.2 bt130.1 bt130.2.1 bt130.2.2.1 bt130.2.2.2.1 bt130.2.2.2.2 true) else (pantrylaw02_DateShows.j0 k a0 bt128.1 bt128.2 bt130.1 bt130.2.1 bt130.2.2.1 bt130.2.2.2.1 bt130.2.2.2.2 (decide (a0 > 253402300799)))))) = some r := by rw [if_pos rfl] at H; exact H
    clear H
    have H := H1
    clear H1
    replace H := Option.bind_eq_some_iff.mp H
    obtain ⟨⟨t128, t129⟩, A40, H⟩ := H
    replace H : ((date_Split.f k a0).bind fun bt130 => (if a0 < 0 then (pantrylaw02_DateShows.j0 k a0 t128 t129 bt130.1 bt130.2.1 bt130.2.2.1 bt130.2.2.2.1 bt130.2.2.2.2 true) else (pantrylaw02_DateShows.j0 k a0 t128 t129 bt130.1 bt130.2.1 bt130.2.2.1 bt130.2.2.2.1 bt130.2.2.2.2 (decide (a0 > 253402300799))))) = some r := H
    have A4 := Aside0.mk A40
    clear A40
    replace H := Option.bind_eq_some_iff.mp H
    obtain ⟨⟨t130, t131, t132, t133, t134⟩, A50, H⟩ := H
    replace H : (if a0 < 0 then (pantrylaw02_DateShows.j0 k a0 t128 t129 t130 t131 t132 t133 t134 true) else (pantrylaw02_DateShows.j0 k a0 t128 t129 t130 t131 t132 t133 t134 (decide (a0 > 253402300799)))) = some r := H
    have A5 := Aside0.mk A50
    clear A50
    have HC6 := Aside0.mk H
    clear H
    go_enter Try.func3, Try.ntmps3
    go_upto_region 5 with (first | ((with_reducible refine gate_callee (f := 10) rfl ?_); refine goesL_ (some 14) rfl rfl Try.func10 (by kernel_rfl) rfl #[] rfl (by (try simp only [List.map_toArray, List.map_cons, List.map_nil]); first | done | rfl | (simp only [List.length_drop, List.length_take]; rfl)) ?_; (with_reducible refine (pantrylaw02_anchor.calls k  true _ ?side1 A2.out).mono ?_); (case side1 => repeat (first | exact HRW.out | (with_reducible refine Kd.C_alloc ?_ _) | (with_reducible refine Kd.C_drewN ?_ _) | (with_reducible refine Kd.C_drew ?_))); rintro e w7 ⟨rfl, hb⟩; refine ⟨_, rfl, ?_⟩; have n0_ := Aside0.mk (below_step (by repeat (first | (with_reducible first | exact HB.out | apply below_alloc | apply pw_below_drewN | apply below_drew1) | exact HB.out)) hb); clear HB; have HB := n0_; clear n0_; (try clear hb); (try clear hb2); (try clear hk); (try clear hi)) | ((with_reducible refine gate_callee (f := 11) rfl ?_); refine goesL_ (some 18) rfl rfl Try.func11 (by kernel_rfl) rfl #[.int .i64 a0] rfl (by (try simp only [List.map_toArray, List.map_cons, List.map_nil]); first | done | rfl | (simp only [List.length_drop, List.length_take]; rfl)) ?_; (with_reducible refine (date_Show.calls k a0 t128 t129 _ A4.out).mono ?_); rintro e w8 ⟨rfl, hb⟩; refine ⟨_, rfl, ?_⟩; have n0_ := Aside0.mk (below_step (by repeat (first | (with_reducible first | exact HB.out | apply below_alloc | apply pw_below_drewN | apply below_drew1) | exact HB.out)) hb); clear HB; have HB := n0_; clear n0_; (try clear hb); (try clear hb2); (try clear hk); (try clear hi)) | ((with_reducible refine gate_callee (f := 12) rfl ?_); refine goesL_ (some 23) rfl rfl Try.func12 (by kernel_rfl) rfl #[.int .i64 a0] rfl (by (try simp only [List.map_toArray, List.map_cons, List.map_nil]); first | done | rfl | (simp only [List.length_drop, List.length_take]; rfl)) ?_; (with_reducible refine (date_Split.calls k a0 t130 t131 t132 t133 t134 _ A5.out).mono ?_); rintro e w' ⟨rfl, ⟨nd, rfl⟩⟩; refine ⟨_, rfl, ?_⟩))
    (try simp only [Act.put, List.setIfInBounds_toArray, List.set_cons_zero, List.set_cons_succ])
    go_cut [34] (fun v34 wc => ∃ (kq : Nat) (x34_5 : Bool), v34 = .bool x34_5 ∧ Aside0 (pantrylaw02_DateShows.j0 kq a0 t128 t129 t130 t131 t132 t133 t134 x34_5 = some r) ∧ Aside0 (kq ≤ k) ∧ Aside0 (Below w.heap.size w wc))
    case first =>
      have H := HC6.out
      clear HC6
      by_cases c9 : a0 < 0
      · rw [if_pos c9] at H
        have c9b0 : decide (a0 < 0) = true := decide_eq_true c9
        clear c9
        (first | rw [c9b0] | (simp only [i64_w, i32_w]; rw [c9b0]) | skip)
        have H' := Aside0.mk H
        clear H
        go_wp2
        go_meet
        case rel => exact ⟨_, (true), (by first | rfl | (simp; done) | (simp [*]; done)), H', ⟨by first | omega | exact Nat.le_refl _⟩, ⟨by repeat (first | (with_reducible first | exact HB.out | apply below_alloc | apply pw_below_drewN | apply below_drew1) | exact HB.out)⟩⟩
      · rw [if_neg c9] at H
        have c9b0 : decide (a0 < 0) = false := decide_eq_false c9
        clear c9
        (first | rw [c9b0] | (simp only [i64_w, i32_w]; rw [c9b0]) | skip)
        have H' := Aside0.mk H
        clear H
        go_wp2
        go_meet
        case rel => exact ⟨_, (decide (a0 > 253402300799)), (by first | rfl | (simp; done) | (simp [*]; done)), H', ⟨by first | omega | exact Nat.le_refl _⟩, ⟨by repeat (first | (with_reducible first | exact HB.out | apply below_alloc | apply pw_below_drewN | apply below_drew1) | exact HB.out)⟩⟩
    case rest =>
      clear HC6
      try clear c1
      try clear p2
      try clear c3
      try clear c9
      try clear c9b0
      obtain ⟨kq, x34_5, rfl, HA, HJ5, HB⟩ := hcut
      cases kq with
      | zero => exact absurd HA.out (by simp [pantrylaw02_DateShows.j0])
      | succ kj5 =>
        have H := HA.out
        clear HA
        simp only [pantrylaw02_DateShows.j0] at H
        by_cases c10 : x34_5 = true
        · subst c10
          have H1 : (if t129 = 11 then (if t134 = 11 then (if t128.toList = ([] : List UInt8) then (if t130 = 0 then (if t131 = 0 then (if t132 = 0 then (some (t133 == 0)) else (some false)) else (some false)) else (some false)) else (some false)) else (some false)) else (some false)) = some r := by rw [if_pos rfl] at H; exact H
          clear H
          have H := H1
          clear H1
          by_cases c11 : t129 = 11
          · rw [if_pos c11] at H
            have c11b0 : (t129 == 11) = true := beq_iff_eq.mpr c11
            have c11b1 : (t129 != 11) = false := bne_eq_false_iff_eq.mpr c11
            clear c11
            by_cases c12 : t134 = 11
            · rw [if_pos c12] at H
              have c12b0 : (t134 == 11) = true := beq_iff_eq.mpr c12
              have c12b1 : (t134 != 11) = false := bne_eq_false_iff_eq.mpr c12
              clear c12
              by_cases c13 : t128.toList = ([] : List UInt8)
              · rw [if_pos c13] at H
                have c13b0 : (t128.toList == ([] : List UInt8)) = true := beq_iff_eq.mpr c13
                have c13b1 : (t128.toList != ([] : List UInt8)) = false := bne_eq_false_iff_eq.mpr c13
                clear c13
                by_cases c14 : t130 = 0
                · rw [if_pos c14] at H
                  have c14b0 : (t130 == 0) = true := beq_iff_eq.mpr c14
                  have c14b1 : (t130 != 0) = false := bne_eq_false_iff_eq.mpr c14
                  clear c14
                  by_cases c15 : t131 = 0
                  · rw [if_pos c15] at H
                    have c15b0 : (t131 == 0) = true := beq_iff_eq.mpr c15
                    have c15b1 : (t131 != 0) = false := bne_eq_false_iff_eq.mpr c15
                    clear c15
                    by_cases c16 : t132 = 0
                    · rw [if_pos c16] at H
                      have c16b0 : (t132 == 0) = true := beq_iff_eq.mpr c16
                      have c16b1 : (t132 != 0) = false := bne_eq_false_iff_eq.mpr c16
                      clear c16
                      obtain rfl := Option.some.inj H
                      go_wp2
                      go_ret
                      exact ⟨by first | rfl | (generalize ByteArray.toList _ = l_; cases l_ <;> rfl) | (simp [errW_none, errW_some] <;> rfl) | (simp [*, errW_none, errW_some] <;> rfl), by repeat (first | (with_reducible first | exact HB.out | apply below_alloc | apply pw_below_drewN | apply below_drew1) | exact HB.out)⟩
                    · rw [if_neg c16] at H
                      have c16b0 : (t132 == 0) = false := beq_eq_false_iff_ne.mpr c16
                      have c16b1 : (t132 != 0) = true := bne_iff_ne.mpr c16
                      obtain rfl := Option.some.inj H
                      go_wp2
                      go_ret
                      exact ⟨by first | rfl | (generalize ByteArray.toList _ = l_; cases l_ <;> rfl) | (simp [errW_none, errW_some] <;> rfl) | (simp [*, errW_none, errW_some] <;> rfl), by repeat (first | (with_reducible first | exact HB.out | apply below_alloc | apply pw_below_drewN | apply below_drew1) | exact HB.out)⟩
                  · rw [if_neg c15] at H
                    have c15b0 : (t131 == 0) = false := beq_eq_false_iff_ne.mpr c15
                    have c15b1 : (t131 != 0) = true := bne_iff_ne.mpr c15
                    obtain rfl := Option.some.inj H
                    go_wp2
                    go_ret
                    exact ⟨by first | rfl | (generalize ByteArray.toList _ = l_; cases l_ <;> rfl) | (simp [errW_none, errW_some] <;> rfl) | (simp [*, errW_none, errW_some] <;> rfl), by repeat (first | (with_reducible first | exact HB.out | apply below_alloc | apply pw_below_drewN | apply below_drew1) | exact HB.out)⟩
                · rw [if_neg c14] at H
                  have c14b0 : (t130 == 0) = false := beq_eq_false_iff_ne.mpr c14
                  have c14b1 : (t130 != 0) = true := bne_iff_ne.mpr c14
                  obtain rfl := Option.some.inj H
                  go_wp2
                  go_ret
                  exact ⟨by first | rfl | (generalize ByteArray.toList _ = l_; cases l_ <;> rfl) | (simp [errW_none, errW_some] <;> rfl) | (simp [*, errW_none, errW_some] <;> rfl), by repeat (first | (with_reducible first | exact HB.out | apply below_alloc | apply pw_below_drewN | apply below_drew1) | exact HB.out)⟩
              · rw [if_neg c13] at H
                have c13b0 : (t128.toList == ([] : List UInt8)) = false := beq_eq_false_iff_ne.mpr c13
                have c13b1 : (t128.toList != ([] : List UInt8)) = true := bne_iff_ne.mpr c13
                obtain rfl := Option.some.inj H
                go_wp2
                go_ret
                exact ⟨by first | rfl | (generalize ByteArray.toList _ = l_; cases l_ <;> rfl) | (simp [errW_none, errW_some] <;> rfl) | (simp [*, errW_none, errW_some] <;> rfl), by repeat (first | (with_reducible first | exact HB.out | apply below_alloc | apply pw_below_drewN | apply below_drew1) | exact HB.out)⟩
            · rw [if_neg c12] at H
              have c12b0 : (t134 == 11) = false := beq_eq_false_iff_ne.mpr c12
              have c12b1 : (t134 != 11) = true := bne_iff_ne.mpr c12
              obtain rfl := Option.some.inj H
              go_wp2
              go_ret
              exact ⟨by first | rfl | (generalize ByteArray.toList _ = l_; cases l_ <;> rfl) | (simp [errW_none, errW_some] <;> rfl) | (simp [*, errW_none, errW_some] <;> rfl), by repeat (first | (with_reducible first | exact HB.out | apply below_alloc | apply pw_below_drewN | apply below_drew1) | exact HB.out)⟩
          · rw [if_neg c11] at H
            have c11b0 : (t129 == 11) = false := beq_eq_false_iff_ne.mpr c11
            have c11b1 : (t129 != 11) = true := bne_iff_ne.mpr c11
            obtain rfl := Option.some.inj H
            go_wp2
            go_ret
            exact ⟨by first | rfl | (generalize ByteArray.toList _ = l_; cases l_ <;> rfl) | (simp [errW_none, errW_some] <;> rfl) | (simp [*, errW_none, errW_some] <;> rfl), by repeat (first | (with_reducible first | exact HB.out | apply below_alloc | apply pw_below_drewN | apply below_drew1) | exact HB.out)⟩
        · replace c10 := Bool.eq_false_iff.mpr c10
          subst c10
          have H1 : ((pantryref02_Split.f kj5 a0).bind fun bt135 => (if t129 = 0 then (if t134 = 0 then ((pantryref02_Show.f kj5 a0).bind fun t139 => (if t128.toList = t139.toList then (if t130 = bt135.1 then (if t131 = bt135.2.1 then (if t132 = bt135.2.2.1 then (some (t133 == bt135.2.2.2)) else (some false)) else (some false)) else (some false)) else (some false))) else (some false)) else (some false))) = some r := by rw [if_neg (show ¬ (false = true) by decide)] at H; exact H
          clear H
          have H := H1
          clear H1
          replace H := Option.bind_eq_some_iff.mp H
          obtain ⟨⟨t135, t136, t137, t138⟩, A170, H⟩ := H
          replace H : (if t129 = 0 then (if t134 = 0 then ((pantryref02_Show.f kj5 a0).bind fun t139 => (if t128.toList = t139.toList then (if t130 = t135 then (if t131 = t136 then (if t132 = t137 then (some (t133 == t138)) else (some false)) else (some false)) else (some false)) else (some false))) else (some false)) else (some false)) = some r := H
          have A17 := Aside0.mk A170
          clear A170
          by_cases c18 : t129 = 0
          · rw [if_pos c18] at H
            have c18b0 : (t129 == 0) = true := beq_iff_eq.mpr c18
            have c18b1 : (t129 != 0) = false := bne_eq_false_iff_eq.mpr c18
            clear c18
            by_cases c19 : t134 = 0
            · rw [if_pos c19] at H
              have c19b0 : (t134 == 0) = true := beq_iff_eq.mpr c19
              have c19b1 : (t134 != 0) = false := bne_eq_false_iff_eq.mpr c19
              clear c19
              replace H := Option.bind_eq_some_iff.mp H
              obtain ⟨t139, A200, H⟩ := H
              replace H : (if t128.toList = t139.toList then (if t130 = t135 then (if t131 = t136 then (if t132 = t137 then (some (t133 == t138)) else (some false)) else (some false)) else (some false)) else (some false)) = some r := H
              have A20 := Aside0.mk A200
              clear A200
              by_cases c21 : t128.toList = t139.toList
              · rw [if_pos c21] at H
                have c21b0 : (t128.toList == t139.toList) = true := beq_iff_eq.mpr c21
                have c21b1 : (t128.toList != t139.toList) = false := bne_eq_false_iff_eq.mpr c21
                clear c21
                by_cases c22 : t130 = t135
                · rw [if_pos c22] at H
                  have c22b0 : (t130 == t135) = true := beq_iff_eq.mpr c22
                  have c22b1 : (t130 != t135) = false := bne_eq_false_iff_eq.mpr c22
                  clear c22
                  by_cases c23 : t131 = t136
                  · rw [if_pos c23] at H
                    have c23b0 : (t131 == t136) = true := beq_iff_eq.mpr c23
                    have c23b1 : (t131 != t136) = false := bne_eq_false_iff_eq.mpr c23
                    clear c23
                    by_cases c24 : t132 = t137
                    · rw [if_pos c24] at H
                      have c24b0 : (t132 == t137) = true := beq_iff_eq.mpr c24
                      have c24b1 : (t132 != t137) = false := bne_eq_false_iff_eq.mpr c24
                      clear c24
                      obtain rfl := Option.some.inj H
                      go_wp2_with (first | ((with_reducible refine gate_callee (f := 13) rfl ?_); refine goesL_ (some 63) rfl rfl Try.func13 (by kernel_rfl) rfl #[.int .i64 a0] rfl (by (try simp only [List.map_toArray, List.map_cons, List.map_nil]); first | done | rfl | (simp only [List.length_drop, List.length_take]; rfl)) ?_; (with_reducible refine (pantryref02_Split.calls kj5 a0 t135 t136 t137 t138 _ A17.out).mono ?_); rintro e w25 ⟨rfl, hb⟩; refine ⟨_, rfl, ?_⟩; have n0_ := Aside0.mk (below_step (by repeat (first | (with_reducible first | exact HB.out | apply below_alloc | apply pw_below_drewN | apply below_drew1) | exact HB.out)) hb); clear HB; have HB := n0_; clear n0_; (try clear hb); (try clear hb2); (try clear hk); (try clear hi)) | (go_at_call 14; (with_reducible refine (pantryref02_Show.calls kj5 a0 t139 _ A20.out).mono ?_); rintro e w26 ⟨rfl, hb⟩; have n0_ := Aside0.mk (below_step (by repeat (first | (with_reducible first | exact HB.out | apply below_alloc | apply pw_below_drewN | apply below_drew1) | exact HB.out)) hb); clear HB; have HB := n0_; clear n0_; (try clear hb); (try clear hb2); (try clear hk); (try clear hi)))
                      go_ret
                      exact ⟨by first | rfl | (generalize ByteArray.toList _ = l_; cases l_ <;> rfl) | (simp [errW_none, errW_some] <;> rfl) | (simp [*, errW_none, errW_some] <;> rfl), by repeat (first | (with_reducible first | exact HB.out | apply below_alloc | apply pw_below_drewN | apply below_drew1) | exact HB.out)⟩
                    · rw [if_neg c24] at H
                      have c24b0 : (t132 == t137) = false := beq_eq_false_iff_ne.mpr c24
                      have c24b1 : (t132 != t137) = true := bne_iff_ne.mpr c24
                      obtain rfl := Option.some.inj H
                      go_wp2_with (first | ((with_reducible refine gate_callee (f := 13) rfl ?_); refine goesL_ (some 63) rfl rfl Try.func13 (by kernel_rfl) rfl #[.int .i64 a0] rfl (by (try simp only [List.map_toArray, List.map_cons, List.map_nil]); first | done | rfl | (simp only [List.length_drop, List.length_take]; rfl)) ?_; (with_reducible refine (pantryref02_Split.calls kj5 a0 t135 t136 t137 t138 _ A17.out).mono ?_); rintro e w27 ⟨rfl, hb⟩; refine ⟨_, rfl, ?_⟩; have n0_ := Aside0.mk (below_step (by repeat (first | (with_reducible first | exact HB.out | apply below_alloc | apply pw_below_drewN | apply below_drew1) | exact HB.out)) hb); clear HB; have HB := n0_; clear n0_; (try clear hb); (try clear hb2); (try clear hk); (try clear hi)) | (go_at_call 14; (with_reducible refine (pantryref02_Show.calls kj5 a0 t139 _ A20.out).mono ?_); rintro e w28 ⟨rfl, hb⟩; have n0_ := Aside0.mk (below_step (by repeat (first | (with_reducible first | exact HB.out | apply below_alloc | apply pw_below_drewN | apply below_drew1) | exact HB.out)) hb); clear HB; have HB := n0_; clear n0_; (try clear hb); (try clear hb2); (try clear hk); (try clear hi)))
                      go_ret
                      exact ⟨by first | rfl | (generalize ByteArray.toList _ = l_; cases l_ <;> rfl) | (simp [errW_none, errW_some] <;> rfl) | (simp [*, errW_none, errW_some] <;> rfl), by repeat (first | (with_reducible first | exact HB.out | apply below_alloc | apply pw_below_drewN | apply below_drew1) | exact HB.out)⟩
                  · rw [if_neg c23] at H
                    have c23b0 : (t131 == t136) = false := beq_eq_false_iff_ne.mpr c23
                    have c23b1 : (t131 != t136) = true := bne_iff_ne.mpr c23
                    obtain rfl := Option.some.inj H
                    go_wp2_with (first | ((with_reducible refine gate_callee (f := 13) rfl ?_); refine goesL_ (some 63) rfl rfl Try.func13 (by kernel_rfl) rfl #[.int .i64 a0] rfl (by (try simp only [List.map_toArray, List.map_cons, List.map_nil]); first | done | rfl | (simp only [List.length_drop, List.length_take]; rfl)) ?_; (with_reducible refine (pantryref02_Split.calls kj5 a0 t135 t136 t137 t138 _ A17.out).mono ?_); rintro e w29 ⟨rfl, hb⟩; refine ⟨_, rfl, ?_⟩; have n0_ := Aside0.mk (below_step (by repeat (first | (with_reducible first | exact HB.out | apply below_alloc | apply pw_below_drewN | apply below_drew1) | exact HB.out)) hb); clear HB; have HB := n0_; clear n0_; (try clear hb); (try clear hb2); (try clear hk); (try clear hi)) | (go_at_call 14; (with_reducible refine (pantryref02_Show.calls kj5 a0 t139 _ A20.out).mono ?_); rintro e w30 ⟨rfl, hb⟩; have n0_ := Aside0.mk (below_step (by repeat (first | (with_reducible first | exact HB.out | apply below_alloc | apply pw_below_drewN | apply below_drew1) | exact HB.out)) hb); clear HB; have HB := n0_; clear n0_; (try clear hb); (try clear hb2); (try clear hk); (try clear hi)))
                    go_ret
                    exact ⟨by first | rfl | (generalize ByteArray.toList _ = l_; cases l_ <;> rfl) | (simp [errW_none, errW_some] <;> rfl) | (simp [*, errW_none, errW_some] <;> rfl), by repeat (first | (with_reducible first | exact HB.out | apply below_alloc | apply pw_below_drewN | apply below_drew1) | exact HB.out)⟩
                · rw [if_neg c22] at H
                  have c22b0 : (t130 == t135) = false := beq_eq_false_iff_ne.mpr c22
                  have c22b1 : (t130 != t135) = true := bne_iff_ne.mpr c22
                  obtain rfl := Option.some.inj H
                  go_wp2_with (first | ((with_reducible refine gate_callee (f := 13) rfl ?_); refine goesL_ (some 63) rfl rfl Try.func13 (by kernel_rfl) rfl #[.int .i64 a0] rfl (by (try simp only [List.map_toArray, List.map_cons, List.map_nil]); first | done | rfl | (simp only [List.length_drop, List.length_take]; rfl)) ?_; (with_reducible refine (pantryref02_Split.calls kj5 a0 t135 t136 t137 t138 _ A17.out).mono ?_); rintro e w31 ⟨rfl, hb⟩; refine ⟨_, rfl, ?_⟩; have n0_ := Aside0.mk (below_step (by repeat (first | (with_reducible first | exact HB.out | apply below_alloc | apply pw_below_drewN | apply below_drew1) | exact HB.out)) hb); clear HB; have HB := n0_; clear n0_; (try clear hb); (try clear hb2); (try clear hk); (try clear hi)) | (go_at_call 14; (with_reducible refine (pantryref02_Show.calls kj5 a0 t139 _ A20.out).mono ?_); rintro e w32 ⟨rfl, hb⟩; have n0_ := Aside0.mk (below_step (by repeat (first | (with_reducible first | exact HB.out | apply below_alloc | apply pw_below_drewN | apply below_drew1) | exact HB.out)) hb); clear HB; have HB := n0_; clear n0_; (try clear hb); (try clear hb2); (try clear hk); (try clear hi)))
                  go_ret
                  exact ⟨by first | rfl | (generalize ByteArray.toList _ = l_; cases l_ <;> rfl) | (simp [errW_none, errW_some] <;> rfl) | (simp [*, errW_none, errW_some] <;> rfl), by repeat (first | (with_reducible first | exact HB.out | apply below_alloc | apply pw_below_drewN | apply below_drew1) | exact HB.out)⟩
              · rw [if_neg c21] at H
                have c21b0 : (t128.toList == t139.toList) = false := beq_eq_false_iff_ne.mpr c21
                have c21b1 : (t128.toList != t139.toList) = true := bne_iff_ne.mpr c21
                obtain rfl := Option.some.inj H
                go_wp2_with (first | ((with_reducible refine gate_callee (f := 13) rfl ?_); refine goesL_ (some 63) rfl rfl Try.func13 (by kernel_rfl) rfl #[.int .i64 a0] rfl (by (try simp only [List.map_toArray, List.map_cons, List.map_nil]); first | done | rfl | (simp only [List.length_drop, List.length_take]; rfl)) ?_; (with_reducible refine (pantryref02_Split.calls kj5 a0 t135 t136 t137 t138 _ A17.out).mono ?_); rintro e w33 ⟨rfl, hb⟩; refine ⟨_, rfl, ?_⟩; have n0_ := Aside0.mk (below_step (by repeat (first | (with_reducible first | exact HB.out | apply below_alloc | apply pw_below_drewN | apply below_drew1) | exact HB.out)) hb); clear HB; have HB := n0_; clear n0_; (try clear hb); (try clear hb2); (try clear hk); (try clear hi)) | (go_at_call 14; (with_reducible refine (pantryref02_Show.calls kj5 a0 t139 _ A20.out).mono ?_); rintro e w34 ⟨rfl, hb⟩; have n0_ := Aside0.mk (below_step (by repeat (first | (with_reducible first | exact HB.out | apply below_alloc | apply pw_below_drewN | apply below_drew1) | exact HB.out)) hb); clear HB; have HB := n0_; clear n0_; (try clear hb); (try clear hb2); (try clear hk); (try clear hi)))
                go_ret
                exact ⟨by first | rfl | (generalize ByteArray.toList _ = l_; cases l_ <;> rfl) | (simp [errW_none, errW_some] <;> rfl) | (simp [*, errW_none, errW_some] <;> rfl), by repeat (first | (with_reducible first | exact HB.out | apply below_alloc | apply pw_below_drewN | apply below_drew1) | exact HB.out)⟩
            · rw [if_neg c19] at H
              have c19b0 : (t134 == 0) = false := beq_eq_false_iff_ne.mpr c19
              have c19b1 : (t134 != 0) = true := bne_iff_ne.mpr c19
              obtain rfl := Option.some.inj H
              go_wp2_with (first | ((with_reducible refine gate_callee (f := 13) rfl ?_); refine goesL_ (some 63) rfl rfl Try.func13 (by kernel_rfl) rfl #[.int .i64 a0] rfl (by (try simp only [List.map_toArray, List.map_cons, List.map_nil]); first | done | rfl | (simp only [List.length_drop, List.length_take]; rfl)) ?_; (with_reducible refine (pantryref02_Split.calls kj5 a0 t135 t136 t137 t138 _ A17.out).mono ?_); rintro e w35 ⟨rfl, hb⟩; refine ⟨_, rfl, ?_⟩; have n0_ := Aside0.mk (below_step (by repeat (first | (with_reducible first | exact HB.out | apply below_alloc | apply pw_below_drewN | apply below_drew1) | exact HB.out)) hb); clear HB; have HB := n0_; clear n0_; (try clear hb); (try clear hb2); (try clear hk); (try clear hi)))
              go_ret
              exact ⟨by first | rfl | (generalize ByteArray.toList _ = l_; cases l_ <;> rfl) | (simp [errW_none, errW_some] <;> rfl) | (simp [*, errW_none, errW_some] <;> rfl), by repeat (first | (with_reducible first | exact HB.out | apply below_alloc | apply pw_below_drewN | apply below_drew1) | exact HB.out)⟩
          · rw [if_neg c18] at H
            have c18b0 : (t129 == 0) = false := beq_eq_false_iff_ne.mpr c18
            have c18b1 : (t129 != 0) = true := bne_iff_ne.mpr c18
            obtain rfl := Option.some.inj H
            go_wp2_with (first | ((with_reducible refine gate_callee (f := 13) rfl ?_); refine goesL_ (some 63) rfl rfl Try.func13 (by kernel_rfl) rfl #[.int .i64 a0] rfl (by (try simp only [List.map_toArray, List.map_cons, List.map_nil]); first | done | rfl | (simp only [List.length_drop, List.length_take]; rfl)) ?_; (with_reducible refine (pantryref02_Split.calls kj5 a0 t135 t136 t137 t138 _ A17.out).mono ?_); rintro e w36 ⟨rfl, hb⟩; refine ⟨_, rfl, ?_⟩; have n0_ := Aside0.mk (below_step (by repeat (first | (with_reducible first | exact HB.out | apply below_alloc | apply pw_below_drewN | apply below_drew1) | exact HB.out)) hb); clear HB; have HB := n0_; clear n0_; (try clear hb); (try clear hb2); (try clear hk); (try clear hi)))
            go_ret
            exact ⟨by first | rfl | (generalize ByteArray.toList _ = l_; cases l_ <;> rfl) | (simp [errW_none, errW_some] <;> rfl) | (simp [*, errW_none, errW_some] <;> rfl), by repeat (first | (with_reducible first | exact HB.out | apply below_alloc | apply pw_below_drewN | apply below_drew1) | exact HB.out)⟩
  · replace c3 := Bool.eq_false_iff.mpr c3
    subst c3
    have H1 : (some false) = some r := by rw [if_neg (show ¬ (false = true) by decide)] at H; exact H
    clear H
    have H := H1
    clear H1
    obtain rfl := Option.some.inj H
    go_enter Try.func3, Try.ntmps3
    go_wp2_with (first | ((with_reducible refine gate_callee (f := 10) rfl ?_); refine goesL_ (some 14) rfl rfl Try.func10 (by kernel_rfl) rfl #[] rfl (by (try simp only [List.map_toArray, List.map_cons, List.map_nil]); first | done | rfl | (simp only [List.length_drop, List.length_take]; rfl)) ?_; (with_reducible refine (pantrylaw02_anchor.calls k  false _ ?side1 A2.out).mono ?_); (case side1 => repeat (first | exact HRW.out | (with_reducible refine Kd.C_alloc ?_ _) | (with_reducible refine Kd.C_drewN ?_ _) | (with_reducible refine Kd.C_drew ?_))); rintro e w37 ⟨rfl, hb⟩; refine ⟨_, rfl, ?_⟩; have n0_ := Aside0.mk (below_step (by repeat (first | (with_reducible first | exact HB.out | apply below_alloc | apply pw_below_drewN | apply below_drew1) | exact HB.out)) hb); clear HB; have HB := n0_; clear n0_; (try clear hb); (try clear hb2); (try clear hk); (try clear hi)))
    go_ret
    exact ⟨by first | rfl | (generalize ByteArray.toList _ = l_; cases l_ <;> rfl) | (simp [errW_none, errW_some] <;> rfl) | (simp [*, errW_none, errW_some] <;> rfl), by repeat (first | (with_reducible first | exact HB.out | apply below_alloc | apply pw_below_drewN | apply below_drew1) | exact HB.out)⟩

/-- THE ONE PURE STATEMENT of pantrylaw02_DateShows: yours. -/
def pantrylaw02_DateShows.Pure : Prop := ∀ (a0 : Int), (Lit.int .i64 a0).wf = true → ∃ k, pantrylaw02_DateShows.f k a0 = some true
theorem pantrylaw02_DateShows.walk (P : pantrylaw02_DateShows.Pure) (a0 : Int) (w : World) (w0 : (Lit.int .i64 a0).wf = true) (hrW : WF w) :
    Calls Try.prog 3 #[.int .i64 a0] w fun e w' => e = .returned (.bool true) ∧ Below w.heap.size w w' := by
  obtain ⟨k, h⟩ := P a0 w0
  refine (pantrylaw02_DateShows.calls k a0 true w hrW h).mono ?_
  rintro e w' ⟨rfl, hd⟩
  exact ⟨rfl, hd⟩

/-! ### pantrylaw02_DateBack: function 4 -/
def pantrylaw02_DateBack.f (k : Nat) (a0 : Int) : Option (Bool) := (pantrylaw02_anchor.f k).bind fun t140 => (if t140 = true then ((date_Show.f k a0).bind fun bt141 => (if bt141.2 = 0 then ((date_Read.f k bt141.1).bind fun bt143 => (if bt143.2 = 0 then (if bt143.1 = a0 then (some ((bt141.1.size : Int) == 29)) else (some false)) else (some false))) else (if a0 < 0 then (some true) else (some (decide (a0 > 253402300799)))))) else (some false))
theorem pantrylaw02_DateBack.mono : ∀ a0 k, LeO (pantrylaw02_DateBack.f k a0) (pantrylaw02_DateBack.f (k + 1) a0) := by
  intro a0 k
  unfold pantrylaw02_DateBack.f
  repeat' first
      | (with_reducible exact date_Read.mono _ _)
      | (with_reducible exact date_Show.mono _ _)
      | (with_reducible exact pantrylaw02_anchor.mono _)
      | (with_reducible exact LeO.refl _)
      | (with_reducible exact LeO.none _)
      | (with_reducible refine LeO.ite ?_ ?_)
      | (with_reducible refine LeO.bind ?_ (fun _ => ?_))
      | exact date_Read.mono _ _
      | exact date_Show.mono _ _
      | exact pantrylaw02_anchor.mono _
      | exact LeO.none _
      | refine LeO.ite ?_ ?_
      | refine LeO.bind ?_ (fun _ => ?_)
set_option maxHeartbeats 8000000 in
set_option maxRecDepth 100000 in
theorem pantrylaw02_DateBack.calls (k : Nat) (a0 : Int) (r : Bool) (w : World) (hrW : WF w) (h : pantrylaw02_DateBack.f k a0 = some r) :
    Calls Try.prog 4 #[.int .i64 a0] w fun e w' => e = .returned (.bool r) ∧ Below w.heap.size w w' := by
  have HRW := Aside0.mk hrW
  clear hrW
  have HB := Aside0.mk (Below.refl w.heap.size w)
  have H : ((pantrylaw02_anchor.f k).bind fun t140 => (if t140 = true then ((date_Show.f k a0).bind fun bt141 => (if bt141.2 = 0 then ((date_Read.f k bt141.1).bind fun bt143 => (if bt143.2 = 0 then (if bt143.1 = a0 then (some ((bt141.1.size : Int) == 29)) else (some false)) else (some false))) else (if a0 < 0 then (some true) else (some (decide (a0 > 253402300799)))))) else (some false))) = some r := h
  clear h
  replace H := Option.bind_eq_some_iff.mp H
  obtain ⟨t140, A20, H⟩ := H
  replace H : (if t140 = true then ((date_Show.f k a0).bind fun bt141 => (if bt141.2 = 0 then ((date_Read.f k bt141.1).bind fun bt143 => (if bt143.2 = 0 then (if bt143.1 = a0 then (some ((bt141.1.size : Int) == 29)) else (some false)) else (some false))) else (if a0 < 0 then (some true) else (some (decide (a0 > 253402300799)))))) else (some false)) = some r := H
  have A2 := Aside0.mk A20
  clear A20
  by_cases c3 : t140 = true
  · subst c3
    have H1 : ((date_Show.f k a0).bind fun bt141 => (if bt141.2 = 0 then ((date_Read.f k bt141.1).bind fun bt143 => (if bt143.2 = 0 then (if bt143.1 = a0 then (some ((bt141.1.size : Int) == 29)) else (some false)) else (some false))) else (if a0 < 0 then (some true) else (some (decide (a0 > 253402300799)))))) = some r := by rw [if_pos rfl] at H; exact H
    clear H
    have H := H1
    clear H1
    replace H := Option.bind_eq_some_iff.mp H
    obtain ⟨⟨t141, t142⟩, A40, H⟩ := H
    replace H : (if t142 = 0 then ((date_Read.f k t141).bind fun bt143 => (if bt143.2 = 0 then (if bt143.1 = a0 then (some ((t141.size : Int) == 29)) else (some false)) else (some false))) else (if a0 < 0 then (some true) else (some (decide (a0 > 253402300799))))) = some r := H
    have A4 := Aside0.mk A40
    clear A40
    by_cases c5 : t142 = 0
    · rw [if_pos c5] at H
      have c5b0 : (t142 == 0) = true := beq_iff_eq.mpr c5
      have c5b1 : (t142 != 0) = false := bne_eq_false_iff_eq.mpr c5
      clear c5
      replace H := Option.bind_eq_some_iff.mp H
      obtain ⟨⟨t143, t144⟩, A60, H⟩ := H
      replace H : (if t144 = 0 then (if t143 = a0 then (some ((t141.size : Int) == 29)) else (some false)) else (some false)) = some r := H
      have A6 := Aside0.mk A60
      clear A60
      by_cases c7 : t144 = 0
      · rw [if_pos c7] at H
        have c7b0 : (t144 == 0) = true := beq_iff_eq.mpr c7
        have c7b1 : (t144 != 0) = false := bne_eq_false_iff_eq.mpr c7
        clear c7
        by_cases c8 : t143 = a0
        · rw [if_pos c8] at H
          have c8b0 : (t143 == a0) = true := beq_iff_eq.mpr c8
          have c8b1 : (t143 != a0) = false := bne_eq_false_iff_eq.mpr c8
          clear c8
          obtain rfl := Option.some.inj H
          go_enter Try.func4, Try.ntmps4
          go_wp2_with (first | ((with_reducible refine gate_callee (f := 10) rfl ?_); refine goesL_ (some 7) rfl rfl Try.func10 (by kernel_rfl) rfl #[] rfl (by (try simp only [List.map_toArray, List.map_cons, List.map_nil]); first | done | rfl | (simp only [List.length_drop, List.length_take]; rfl)) ?_; (with_reducible refine (pantrylaw02_anchor.calls k  true _ ?side1 A2.out).mono ?_); (case side1 => repeat (first | exact HRW.out | (with_reducible refine Kd.C_alloc ?_ _) | (with_reducible refine Kd.C_drewN ?_ _) | (with_reducible refine Kd.C_drew ?_))); rintro e w9 ⟨rfl, hb⟩; refine ⟨_, rfl, ?_⟩; have n0_ := Aside0.mk (below_step (by repeat (first | (with_reducible first | exact HB.out | apply below_alloc | apply pw_below_drewN | apply below_drew1) | exact HB.out)) hb); clear HB; have HB := n0_; clear n0_; (try clear hb); (try clear hb2); (try clear hk); (try clear hi)) | ((with_reducible refine gate_callee (f := 11) rfl ?_); refine goesL_ (some 11) rfl rfl Try.func11 (by kernel_rfl) rfl #[.int .i64 a0] rfl (by (try simp only [List.map_toArray, List.map_cons, List.map_nil]); first | done | rfl | (simp only [List.length_drop, List.length_take]; rfl)) ?_; (with_reducible refine (date_Show.calls k a0 t141 t142 _ A4.out).mono ?_); rintro e w10 ⟨rfl, hb⟩; refine ⟨_, rfl, ?_⟩; have n0_ := Aside0.mk (below_step (by repeat (first | (with_reducible first | exact HB.out | apply below_alloc | apply pw_below_drewN | apply below_drew1) | exact HB.out)) hb); clear HB; have HB := n0_; clear n0_; (try clear hb); (try clear hb2); (try clear hk); (try clear hi)) | ((with_reducible refine gate_callee (f := 15) rfl ?_); refine goesL_ (some 24) rfl rfl Try.func15 (by kernel_rfl) rfl #[.string t141] rfl (by (try simp only [List.map_toArray, List.map_cons, List.map_nil]); first | done | rfl | (simp only [List.length_drop, List.length_take]; rfl)) ?_; (with_reducible refine (date_Read.calls k t141 t143 t144 _ ?side1 A6.out).mono ?_); (case side1 => repeat (first | exact (WF.below HRW.out HB.out) | (with_reducible refine Kd.C_alloc ?_ _) | (with_reducible refine Kd.C_drewN ?_ _) | (with_reducible refine Kd.C_drew ?_))); rintro e w11 ⟨rfl, hb⟩; refine ⟨_, rfl, ?_⟩; have n0_ := Aside0.mk (below_step (by repeat (first | (with_reducible first | exact HB.out | apply below_alloc | apply pw_below_drewN | apply below_drew1) | exact HB.out)) hb); clear HB; have HB := n0_; clear n0_; (try clear hb); (try clear hb2); (try clear hk); (try clear hi)))
          go_ret
          exact ⟨by first | rfl | (generalize ByteArray.toList _ = l_; cases l_ <;> rfl) | (simp [errW_none, errW_some] <;> rfl) | (simp [*, errW_none, errW_some] <;> rfl), by repeat (first | (with_reducible first | exact HB.out | apply below_alloc | apply pw_below_drewN | apply below_drew1) | exact HB.out)⟩
        · rw [if_neg c8] at H
          have c8b0 : (t143 == a0) = false := beq_eq_false_iff_ne.mpr c8
          have c8b1 : (t143 != a0) = true := bne_iff_ne.mpr c8
          obtain rfl := Option.some.inj H
          go_enter Try.func4, Try.ntmps4
          go_wp2_with (first | ((with_reducible refine gate_callee (f := 10) rfl ?_); refine goesL_ (some 7) rfl rfl Try.func10 (by kernel_rfl) rfl #[] rfl (by (try simp only [List.map_toArray, List.map_cons, List.map_nil]); first | done | rfl | (simp only [List.length_drop, List.length_take]; rfl)) ?_; (with_reducible refine (pantrylaw02_anchor.calls k  true _ ?side1 A2.out).mono ?_); (case side1 => repeat (first | exact HRW.out | (with_reducible refine Kd.C_alloc ?_ _) | (with_reducible refine Kd.C_drewN ?_ _) | (with_reducible refine Kd.C_drew ?_))); rintro e w12 ⟨rfl, hb⟩; refine ⟨_, rfl, ?_⟩; have n0_ := Aside0.mk (below_step (by repeat (first | (with_reducible first | exact HB.out | apply below_alloc | apply pw_below_drewN | apply below_drew1) | exact HB.out)) hb); clear HB; have HB := n0_; clear n0_; (try clear hb); (try clear hb2); (try clear hk); (try clear hi)) | ((with_reducible refine gate_callee (f := 11) rfl ?_); refine goesL_ (some 11) rfl rfl Try.func11 (by kernel_rfl) rfl #[.int .i64 a0] rfl (by (try simp only [List.map_toArray, List.map_cons, List.map_nil]); first | done | rfl | (simp only [List.length_drop, List.length_take]; rfl)) ?_; (with_reducible refine (date_Show.calls k a0 t141 t142 _ A4.out).mono ?_); rintro e w13 ⟨rfl, hb⟩; refine ⟨_, rfl, ?_⟩; have n0_ := Aside0.mk (below_step (by repeat (first | (with_reducible first | exact HB.out | apply below_alloc | apply pw_below_drewN | apply below_drew1) | exact HB.out)) hb); clear HB; have HB := n0_; clear n0_; (try clear hb); (try clear hb2); (try clear hk); (try clear hi)) | ((with_reducible refine gate_callee (f := 15) rfl ?_); refine goesL_ (some 24) rfl rfl Try.func15 (by kernel_rfl) rfl #[.string t141] rfl (by (try simp only [List.map_toArray, List.map_cons, List.map_nil]); first | done | rfl | (simp only [List.length_drop, List.length_take]; rfl)) ?_; (with_reducible refine (date_Read.calls k t141 t143 t144 _ ?side1 A6.out).mono ?_); (case side1 => repeat (first | exact (WF.below HRW.out HB.out) | (with_reducible refine Kd.C_alloc ?_ _) | (with_reducible refine Kd.C_drewN ?_ _) | (with_reducible refine Kd.C_drew ?_))); rintro e w14 ⟨rfl, hb⟩; refine ⟨_, rfl, ?_⟩; have n0_ := Aside0.mk (below_step (by repeat (first | (with_reducible first | exact HB.out | apply below_alloc | apply pw_below_drewN | apply below_drew1) | exact HB.out)) hb); clear HB; have HB := n0_; clear n0_; (try clear hb); (try clear hb2); (try clear hk); (try clear hi)))
          go_ret
          exact ⟨by first | rfl | (generalize ByteArray.toList _ = l_; cases l_ <;> rfl) | (simp [errW_none, errW_some] <;> rfl) | (simp [*, errW_none, errW_some] <;> rfl), by repeat (first | (with_reducible first | exact HB.out | apply below_alloc | apply pw_below_drewN | apply below_drew1) | exact HB.out)⟩
      · rw [if_neg c7] at H
        have c7b0 : (t144 == 0) = false := beq_eq_false_iff_ne.mpr c7
        have c7b1 : (t144 != 0) = true := bne_iff_ne.mpr c7
        obtain rfl := Option.some.inj H
        go_enter Try.func4, Try.ntmps4
        go_wp2_with (first | ((with_reducible refine gate_callee (f := 10) rfl ?_); refine goesL_ (some 7) rfl rfl Try.func10 (by kernel_rfl) rfl #[] rfl (by (try simp only [List.map_toArray, List.map_cons, List.map_nil]); first | done | rfl | (simp only [List.length_drop, List.length_take]; rfl)) ?_; (with_reducible refine (pantrylaw02_anchor.calls k  true _ ?side1 A2.out).mono ?_); (case side1 => repeat (first | exact HRW.out | (with_reducible refine Kd.C_alloc ?_ _) | (with_reducible refine Kd.C_drewN ?_ _) | (with_reducible refine Kd.C_drew ?_))); rintro e w15 ⟨rfl, hb⟩; refine ⟨_, rfl, ?_⟩; have n0_ := Aside0.mk (below_step (by repeat (first | (with_reducible first | exact HB.out | apply below_alloc | apply pw_below_drewN | apply below_drew1) | exact HB.out)) hb); clear HB; have HB := n0_; clear n0_; (try clear hb); (try clear hb2); (try clear hk); (try clear hi)) | ((with_reducible refine gate_callee (f := 11) rfl ?_); refine goesL_ (some 11) rfl rfl Try.func11 (by kernel_rfl) rfl #[.int .i64 a0] rfl (by (try simp only [List.map_toArray, List.map_cons, List.map_nil]); first | done | rfl | (simp only [List.length_drop, List.length_take]; rfl)) ?_; (with_reducible refine (date_Show.calls k a0 t141 t142 _ A4.out).mono ?_); rintro e w16 ⟨rfl, hb⟩; refine ⟨_, rfl, ?_⟩; have n0_ := Aside0.mk (below_step (by repeat (first | (with_reducible first | exact HB.out | apply below_alloc | apply pw_below_drewN | apply below_drew1) | exact HB.out)) hb); clear HB; have HB := n0_; clear n0_; (try clear hb); (try clear hb2); (try clear hk); (try clear hi)) | ((with_reducible refine gate_callee (f := 15) rfl ?_); refine goesL_ (some 24) rfl rfl Try.func15 (by kernel_rfl) rfl #[.string t141] rfl (by (try simp only [List.map_toArray, List.map_cons, List.map_nil]); first | done | rfl | (simp only [List.length_drop, List.length_take]; rfl)) ?_; (with_reducible refine (date_Read.calls k t141 t143 t144 _ ?side1 A6.out).mono ?_); (case side1 => repeat (first | exact (WF.below HRW.out HB.out) | (with_reducible refine Kd.C_alloc ?_ _) | (with_reducible refine Kd.C_drewN ?_ _) | (with_reducible refine Kd.C_drew ?_))); rintro e w17 ⟨rfl, hb⟩; refine ⟨_, rfl, ?_⟩; have n0_ := Aside0.mk (below_step (by repeat (first | (with_reducible first | exact HB.out | apply below_alloc | apply pw_below_drewN | apply below_drew1) | exact HB.out)) hb); clear HB; have HB := n0_; clear n0_; (try clear hb); (try clear hb2); (try clear hk); (try clear hi)))
        go_ret
        exact ⟨by first | rfl | (generalize ByteArray.toList _ = l_; cases l_ <;> rfl) | (simp [errW_none, errW_some] <;> rfl) | (simp [*, errW_none, errW_some] <;> rfl), by repeat (first | (with_reducible first | exact HB.out | apply below_alloc | apply pw_below_drewN | apply below_drew1) | exact HB.out)⟩
    · rw [if_neg c5] at H
      have c5b0 : (t142 == 0) = false := beq_eq_false_iff_ne.mpr c5
      have c5b1 : (t142 != 0) = true := bne_iff_ne.mpr c5
      by_cases c18 : a0 < 0
      · rw [if_pos c18] at H
        have c18b0 : decide (a0 < 0) = true := decide_eq_true c18
        clear c18
        obtain rfl := Option.some.inj H
        go_enter Try.func4, Try.ntmps4
        go_wp2_with (first | ((with_reducible refine gate_callee (f := 10) rfl ?_); refine goesL_ (some 7) rfl rfl Try.func10 (by kernel_rfl) rfl #[] rfl (by (try simp only [List.map_toArray, List.map_cons, List.map_nil]); first | done | rfl | (simp only [List.length_drop, List.length_take]; rfl)) ?_; (with_reducible refine (pantrylaw02_anchor.calls k  true _ ?side1 A2.out).mono ?_); (case side1 => repeat (first | exact HRW.out | (with_reducible refine Kd.C_alloc ?_ _) | (with_reducible refine Kd.C_drewN ?_ _) | (with_reducible refine Kd.C_drew ?_))); rintro e w19 ⟨rfl, hb⟩; refine ⟨_, rfl, ?_⟩; have n0_ := Aside0.mk (below_step (by repeat (first | (with_reducible first | exact HB.out | apply below_alloc | apply pw_below_drewN | apply below_drew1) | exact HB.out)) hb); clear HB; have HB := n0_; clear n0_; (try clear hb); (try clear hb2); (try clear hk); (try clear hi)) | ((with_reducible refine gate_callee (f := 11) rfl ?_); refine goesL_ (some 11) rfl rfl Try.func11 (by kernel_rfl) rfl #[.int .i64 a0] rfl (by (try simp only [List.map_toArray, List.map_cons, List.map_nil]); first | done | rfl | (simp only [List.length_drop, List.length_take]; rfl)) ?_; (with_reducible refine (date_Show.calls k a0 t141 t142 _ A4.out).mono ?_); rintro e w20 ⟨rfl, hb⟩; refine ⟨_, rfl, ?_⟩; have n0_ := Aside0.mk (below_step (by repeat (first | (with_reducible first | exact HB.out | apply below_alloc | apply pw_below_drewN | apply below_drew1) | exact HB.out)) hb); clear HB; have HB := n0_; clear n0_; (try clear hb); (try clear hb2); (try clear hk); (try clear hi)))
        go_ret
        exact ⟨by first | rfl | (generalize ByteArray.toList _ = l_; cases l_ <;> rfl) | (simp [errW_none, errW_some] <;> rfl) | (simp [*, errW_none, errW_some] <;> rfl), by repeat (first | (with_reducible first | exact HB.out | apply below_alloc | apply pw_below_drewN | apply below_drew1) | exact HB.out)⟩
      · rw [if_neg c18] at H
        have c18b0 : decide (a0 < 0) = false := decide_eq_false c18
        clear c18
        obtain rfl := Option.some.inj H
        go_enter Try.func4, Try.ntmps4
        go_wp2_with (first | ((with_reducible refine gate_callee (f := 10) rfl ?_); refine goesL_ (some 7) rfl rfl Try.func10 (by kernel_rfl) rfl #[] rfl (by (try simp only [List.map_toArray, List.map_cons, List.map_nil]); first | done | rfl | (simp only [List.length_drop, List.length_take]; rfl)) ?_; (with_reducible refine (pantrylaw02_anchor.calls k  true _ ?side1 A2.out).mono ?_); (case side1 => repeat (first | exact HRW.out | (with_reducible refine Kd.C_alloc ?_ _) | (with_reducible refine Kd.C_drewN ?_ _) | (with_reducible refine Kd.C_drew ?_))); rintro e w21 ⟨rfl, hb⟩; refine ⟨_, rfl, ?_⟩; have n0_ := Aside0.mk (below_step (by repeat (first | (with_reducible first | exact HB.out | apply below_alloc | apply pw_below_drewN | apply below_drew1) | exact HB.out)) hb); clear HB; have HB := n0_; clear n0_; (try clear hb); (try clear hb2); (try clear hk); (try clear hi)) | ((with_reducible refine gate_callee (f := 11) rfl ?_); refine goesL_ (some 11) rfl rfl Try.func11 (by kernel_rfl) rfl #[.int .i64 a0] rfl (by (try simp only [List.map_toArray, List.map_cons, List.map_nil]); first | done | rfl | (simp only [List.length_drop, List.length_take]; rfl)) ?_; (with_reducible refine (date_Show.calls k a0 t141 t142 _ A4.out).mono ?_); rintro e w22 ⟨rfl, hb⟩; refine ⟨_, rfl, ?_⟩; have n0_ := Aside0.mk (below_step (by repeat (first | (with_reducible first | exact HB.out | apply below_alloc | apply pw_below_drewN | apply below_drew1) | exact HB.out)) hb); clear HB; have HB := n0_; clear n0_; (try clear hb); (try clear hb2); (try clear hk); (try clear hi)))
        go_ret
        exact ⟨by first | rfl | (generalize ByteArray.toList _ = l_; cases l_ <;> rfl) | (simp [errW_none, errW_some] <;> rfl) | (simp [*, errW_none, errW_some] <;> rfl), by repeat (first | (with_reducible first | exact HB.out | apply below_alloc | apply pw_below_drewN | apply below_drew1) | exact HB.out)⟩
  · replace c3 := Bool.eq_false_iff.mpr c3
    subst c3
    have H1 : (some false) = some r := by rw [if_neg (show ¬ (false = true) by decide)] at H; exact H
    clear H
    have H := H1
    clear H1
    obtain rfl := Option.some.inj H
    go_enter Try.func4, Try.ntmps4
    go_wp2_with (first | ((with_reducible refine gate_callee (f := 10) rfl ?_); refine goesL_ (some 7) rfl rfl Try.func10 (by kernel_rfl) rfl #[] rfl (by (try simp only [List.map_toArray, List.map_cons, List.map_nil]); first | done | rfl | (simp only [List.length_drop, List.length_take]; rfl)) ?_; (with_reducible refine (pantrylaw02_anchor.calls k  false _ ?side1 A2.out).mono ?_); (case side1 => repeat (first | exact HRW.out | (with_reducible refine Kd.C_alloc ?_ _) | (with_reducible refine Kd.C_drewN ?_ _) | (with_reducible refine Kd.C_drew ?_))); rintro e w23 ⟨rfl, hb⟩; refine ⟨_, rfl, ?_⟩; have n0_ := Aside0.mk (below_step (by repeat (first | (with_reducible first | exact HB.out | apply below_alloc | apply pw_below_drewN | apply below_drew1) | exact HB.out)) hb); clear HB; have HB := n0_; clear n0_; (try clear hb); (try clear hb2); (try clear hk); (try clear hi)))
    go_ret
    exact ⟨by first | rfl | (generalize ByteArray.toList _ = l_; cases l_ <;> rfl) | (simp [errW_none, errW_some] <;> rfl) | (simp [*, errW_none, errW_some] <;> rfl), by repeat (first | (with_reducible first | exact HB.out | apply below_alloc | apply pw_below_drewN | apply below_drew1) | exact HB.out)⟩

/-- THE ONE PURE STATEMENT of pantrylaw02_DateBack: yours. -/
def pantrylaw02_DateBack.Pure : Prop := ∀ (a0 : Int), (Lit.int .i64 a0).wf = true → ∃ k, pantrylaw02_DateBack.f k a0 = some true
theorem pantrylaw02_DateBack.walk (P : pantrylaw02_DateBack.Pure) (a0 : Int) (w : World) (w0 : (Lit.int .i64 a0).wf = true) (hrW : WF w) :
    Calls Try.prog 4 #[.int .i64 a0] w fun e w' => e = .returned (.bool true) ∧ Below w.heap.size w w' := by
  obtain ⟨k, h⟩ := P a0 w0
  refine (pantrylaw02_DateBack.calls k a0 true w hrW h).mono ?_
  rintro e w' ⟨rfl, hd⟩
  exact ⟨rfl, hd⟩

end Go.Proofs.Ytiaiengdncdiaaa.PAll
