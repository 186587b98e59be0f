-- Text by a program of this session, over what print.py prints.
import Derived.Test.YtcechlbeghcliaaDoorPAllx0
import Derived.Test.YtcechlbeghcliaaDoorPAllx3
import Derived.Test.YtcechlbeghcliaaDoorPAllx6
namespace Go.Proofs.YtcechlbeghcliaaDoor.PAll
open Go.RowKit Go.Proofs.YtcechlbeghcliaaDoorW.PrintWords Go.Proofs.YtcechlbeghcliaaDoorW.PrintLast Go.Proofs.YtcechlbeghcliaaDoorW.PrintMore
attribute [local go_sem] max2_int min2_int max_two min_two max_three min_three max_four min_four   -- for this text's walks alone
set_option linter.unusedVariables false
set_option linter.unusedSimpArgs false

/-! ### pantrylaw13_PassWeak: function 8 -/
mutual
def pantrylaw13_PassWeak.j0 : Nat → Int → Int → Bool → List Int → Bool → Option (Bool)
  | 0, _, _, _, _, _ => none
  | k + 1, x0, x1, x2, x3, x36 => if x36 = true then (some true) else ((pantrylaw13_PassWeak_1.f x0).bind fun t215 => ((some (([(⟨(⟨#[69, 84, 97, 103]⟩ : ByteArray), t215⟩ : S49)] : List (S49)) : List (S49))).bind fun y216 => ((pantrylaw13_PassWeak_1.f x1).bind fun t219 => (if x2 = true then (if 2 + t219.size ≤ 9223372036854775807 then (pantrylaw13_PassWeak.j1 k x0 x1 x3 y216 ((⟨#[87, 47]⟩ : ByteArray) ++ t219)) else (none)) else (pantrylaw13_PassWeak.j1 k x0 x1 x3 y216 t219)))))
def pantrylaw13_PassWeak.j1 : Nat → Int → Int → List Int → List (S49) → ByteArray → Option (Bool)
  | 0, _, _, _, _, _ => none
  | k + 1, x0, x1, x3, x10, x11 => pantrylaw13_PassWeak.l0 k x0 x10 x11 (x0 == x1) x3 (x3.length : Int) 0
def pantrylaw13_PassWeak.l0 : Nat → Int → List (S49) → ByteArray → Bool → List Int → Int → Int → Option (Bool)
  | 0, _, _, _, _, _, _, _ => none
  | k + 1, x0, x10, x11, x12, x51, x52, x53 => if x53 < x52 then (if 0 ≤ x53 then (if x53 < (x51.length : Int) then (if (rd x51 x53) < 0 then (some true) else (if (rd x51 x53) > 9 then (some true) else ((pantrylaw13_PassWeak_1.f (rd x51 x53)).bind fun t221 => (if 2 + t221.size ≤ 9223372036854775807 then (if x11.size + ((⟨#[44, 32]⟩ : ByteArray) ++ t221).size ≤ 9223372036854775807 then (if x12 = true then (pantrylaw13_PassWeak.l0 k x0 x10 (x11 ++ ((⟨#[44, 32]⟩ : ByteArray) ++ t221)) true x51 x52 (wrap64 (x53 + 1))) else (pantrylaw13_PassWeak.l0 k x0 x10 (x11 ++ ((⟨#[44, 32]⟩ : ByteArray) ++ t221)) ((rd x51 x53) == x0) x51 x52 (wrap64 (x53 + 1)))) else (none)) else (none))))) else (none)) else (none)) else ((pantrylaw13_PassWeak_2.f k x11 x10).bind fun t222 => (if (t222 == x12) = true then ((pantrylaw13_PassWeak_2.f k (⟨#[42]⟩ : ByteArray) x10).bind fun t223 => (if t223 = true then (if x11.size + 3 ≤ 9223372036854775807 then ((pantrylaw13_PassWeak_2.f k (x11 ++ (⟨#[44, 32, 42]⟩ : ByteArray)) x10).bind fun t224 => (if t224 = true then ((pantrylaw13_PassWeak_2.f k (⟨#[]⟩ : ByteArray) x10).bind fun t225 => (some (!t225))) else (none))) else (none)) else (none))) else (none)))
end
def pantrylaw13_PassWeak.f (k : Nat) (a0 : Int) (a1 : Int) (a2 : Bool) (l3 : List Int) : Option (Bool) := (pantrylaw13_anchor.f k).bind fun t214 => (if t214 = true then (if a0 < 0 then (pantrylaw13_PassWeak.j0 k a0 a1 a2 l3 true) else (if a0 > 9 then (pantrylaw13_PassWeak.j0 k a0 a1 a2 l3 true) else (if a1 < 0 then (pantrylaw13_PassWeak.j0 k a0 a1 a2 l3 true) else (if a1 > 9 then (pantrylaw13_PassWeak.j0 k a0 a1 a2 l3 true) else (pantrylaw13_PassWeak.j0 k a0 a1 a2 l3 (decide ((l3.length : Int) > 10))))))) else (none))
theorem pantrylaw13_PassWeak.mono_l : ∀ k, (∀ y0 y1 y2 y3 y4, LeO (pantrylaw13_PassWeak.j0 k y0 y1 y2 y3 y4) (pantrylaw13_PassWeak.j0 (k + 1) y0 y1 y2 y3 y4)) ∧ (∀ y0 y1 y2 y3 y4, LeO (pantrylaw13_PassWeak.j1 k y0 y1 y2 y3 y4) (pantrylaw13_PassWeak.j1 (k + 1) y0 y1 y2 y3 y4)) ∧ (∀ y0 y1 y2 y3 y4 y5 y6, LeO (pantrylaw13_PassWeak.l0 k y0 y1 y2 y3 y4 y5 y6) (pantrylaw13_PassWeak.l0 (k + 1) y0 y1 y2 y3 y4 y5 y6))
  | 0 => ⟨fun _ _ _ _ _ r h => by simp [pantrylaw13_PassWeak.j0] at h, fun _ _ _ _ _ r h => by simp [pantrylaw13_PassWeak.j1] at h, fun _ _ _ _ _ _ _ r h => by simp [pantrylaw13_PassWeak.l0] at h⟩
  | k + 1 => by
    obtain ⟨ih0, ih1, ih2⟩ := pantrylaw13_PassWeak.mono_l k
    refine ⟨?_, ?_, ?_⟩
    · intro y0 y1 y2 y3 y4
      unfold pantrylaw13_PassWeak.j0
      repeat' first
      | (with_reducible exact ih0 _ _ _ _ _)
      | (with_reducible exact ih1 _ _ _ _ _)
      | (with_reducible exact ih2 _ _ _ _ _ _ _)
      | (with_reducible exact pantrylaw13_PassWeak_2.mono _ _ _)
      | (with_reducible exact pantrylaw13_anchor.mono _)
      | (with_reducible exact LeO.refl _)
      | (with_reducible exact LeO.none _)
      | (with_reducible refine LeO.ite ?_ ?_)
      | (with_reducible refine LeO.bind ?_ (fun _ => ?_))
      | exact ih0 _ _ _ _ _
      | exact ih1 _ _ _ _ _
      | exact ih2 _ _ _ _ _ _ _
      | exact pantrylaw13_PassWeak_2.mono _ _ _
      | exact pantrylaw13_anchor.mono _
      | exact LeO.none _
      | refine LeO.ite ?_ ?_
      | refine LeO.bind ?_ (fun _ => ?_)
    · intro y0 y1 y2 y3 y4
      unfold pantrylaw13_PassWeak.j1
      repeat' first
      | (with_reducible exact ih0 _ _ _ _ _)
      | (with_reducible exact ih1 _ _ _ _ _)
      | (with_reducible exact ih2 _ _ _ _ _ _ _)
      | (with_reducible exact pantrylaw13_PassWeak_2.mono _ _ _)
      | (with_reducible exact pantrylaw13_anchor.mono _)
      | (with_reducible exact LeO.refl _)
      | (with_reducible exact LeO.none _)
      | (with_reducible refine LeO.ite ?_ ?_)
      | (with_reducible refine LeO.bind ?_ (fun _ => ?_))
      | exact ih0 _ _ _ _ _
      | exact ih1 _ _ _ _ _
      | exact ih2 _ _ _ _ _ _ _
      | exact pantrylaw13_PassWeak_2.mono _ _ _
      | exact pantrylaw13_anchor.mono _
      | exact LeO.none _
      | refine LeO.ite ?_ ?_
      | refine LeO.bind ?_ (fun _ => ?_)
    · intro y0 y1 y2 y3 y4 y5 y6
      unfold pantrylaw13_PassWeak.l0
      repeat' first
      | (with_reducible exact ih0 _ _ _ _ _)
      | (with_reducible exact ih1 _ _ _ _ _)
      | (with_reducible exact ih2 _ _ _ _ _ _ _)
      | (with_reducible exact pantrylaw13_PassWeak_2.mono _ _ _)
      | (with_reducible exact pantrylaw13_anchor.mono _)
      | (with_reducible exact LeO.refl _)
      | (with_reducible exact LeO.none _)
      | (with_reducible refine LeO.ite ?_ ?_)
      | (with_reducible refine LeO.bind ?_ (fun _ => ?_))
      | exact ih0 _ _ _ _ _
      | exact ih1 _ _ _ _ _
      | exact ih2 _ _ _ _ _ _ _
      | exact pantrylaw13_PassWeak_2.mono _ _ _
      | exact pantrylaw13_anchor.mono _
      | exact LeO.none _
      | refine LeO.ite ?_ ?_
      | refine LeO.bind ?_ (fun _ => ?_)
theorem pantrylaw13_PassWeak.mono : ∀ a0 a1 a2 a3 k, LeO (pantrylaw13_PassWeak.f k a0 a1 a2 a3) (pantrylaw13_PassWeak.f (k + 1) a0 a1 a2 a3) := by
  intro a0 a1 a2 a3 k
  obtain ⟨ih0, ih1, ih2⟩ := pantrylaw13_PassWeak.mono_l k
  unfold pantrylaw13_PassWeak.f
  repeat' first
      | (with_reducible exact ih0 _ _ _ _ _)
      | (with_reducible exact ih1 _ _ _ _ _)
      | (with_reducible exact ih2 _ _ _ _ _ _ _)
      | (with_reducible exact pantrylaw13_PassWeak_2.mono _ _ _)
      | (with_reducible exact pantrylaw13_anchor.mono _)
      | (with_reducible exact LeO.refl _)
      | (with_reducible exact LeO.none _)
      | (with_reducible refine LeO.ite ?_ ?_)
      | (with_reducible refine LeO.bind ?_ (fun _ => ?_))
      | exact ih0 _ _ _ _ _
      | exact ih1 _ _ _ _ _
      | exact ih2 _ _ _ _ _ _ _
      | exact pantrylaw13_PassWeak_2.mono _ _ _
      | exact pantrylaw13_anchor.mono _
      | exact LeO.none _
      | refine LeO.ite ?_ ?_
      | refine LeO.bind ?_ (fun _ => ?_)
set_option maxHeartbeats 8000000 in
set_option maxRecDepth 100000 in
theorem pantrylaw13_PassWeak.calls (k : Nat) (a0 : Int) (a1 : Int) (a2 : Bool) (A3 : Option Addr) (c3 : Nat) (l3 : List Int) (r : Bool) (w : World) (hr3 : Kd.C (Kd.int .i64) w A3 l3.length l3) (hc3 : l3.length ≤ c3) (hrW : WF w) (h : pantrylaw13_PassWeak.f k a0 a1 a2 l3 = some r) :
    Calls Tryd.prog 8 #[.int .i64 a0, .int .i64 a1, .bool a2, .slice A3 l3.length c3] w fun e w' => e = .returned (.bool r) ∧ Below w.heap.size w w' := by
  have hu49 := Tryd.underlying49
  have HRW := Aside0.mk hrW
  clear hrW
  have HR3 := Aside0.mk hr3
  have HC3 := Aside0.mk hc3
  clear hr3 hc3
  have HB := Aside0.mk (Below.refl w.heap.size w)
  have H : ((pantrylaw13_anchor.f k).bind fun t214 => (if t214 = true then (if a0 < 0 then (pantrylaw13_PassWeak.j0 k a0 a1 a2 l3 true) else (if a0 > 9 then (pantrylaw13_PassWeak.j0 k a0 a1 a2 l3 true) else (if a1 < 0 then (pantrylaw13_PassWeak.j0 k a0 a1 a2 l3 true) else (if a1 > 9 then (pantrylaw13_PassWeak.j0 k a0 a1 a2 l3 true) else (pantrylaw13_PassWeak.j0 k a0 a1 a2 l3 (decide ((l3.length : Int) > 10))))))) else (none))) = some r := h
  clear h
  replace H := Option.bind_eq_some_iff.mp H
  obtain ⟨t214, A50, H⟩ := H
  replace H : (if t214 = true then (if a0 < 0 then (pantrylaw13_PassWeak.j0 k a0 a1 a2 l3 true) else (if a0 > 9 then (pantrylaw13_PassWeak.j0 k a0 a1 a2 l3 true) else (if a1 < 0 then (pantrylaw13_PassWeak.j0 k a0 a1 a2 l3 true) else (if a1 > 9 then (pantrylaw13_PassWeak.j0 k a0 a1 a2 l3 true) else (pantrylaw13_PassWeak.j0 k a0 a1 a2 l3 (decide ((l3.length : Int) > 10))))))) else (none)) = some r := H
  have A5 := Aside0.mk A50
  clear A50
  by_cases c6 : t214 = true
  · subst c6
    have H1 : (if a0 < 0 then (pantrylaw13_PassWeak.j0 k a0 a1 a2 l3 true) else (if a0 > 9 then (pantrylaw13_PassWeak.j0 k a0 a1 a2 l3 true) else (if a1 < 0 then (pantrylaw13_PassWeak.j0 k a0 a1 a2 l3 true) else (if a1 > 9 then (pantrylaw13_PassWeak.j0 k a0 a1 a2 l3 true) else (pantrylaw13_PassWeak.j0 k a0 a1 a2 l3 (decide ((l3.length : Int) > 10))))))) = some r := by rw [if_pos rfl] at H; exact H
    clear H
    have H := H1
    clear H1
    have HC7 := Aside0.mk H
    clear H
    go_enter Tryd.func8, Tryd.ntmps8
    go_upto_region 3 with (first | ((with_reducible refine gate_callee (f := 10) rfl ?_); refine goesL_ (some 16) rfl rfl Tryd.func10 (by kernel_rfl) rfl #[] rfl (by (try simp only [List.map_toArray, List.map_cons, List.map_nil]); first | done | rfl | (simp only [List.length_drop, List.length_take]; rfl)) ?_; (with_reducible refine (pantrylaw13_anchor.calls k  true _ A5.out).mono ?_); rintro e w8 ⟨rfl, hb⟩; refine ⟨_, rfl, ?_⟩; have n0_ := Aside0.mk (below_step (by repeat (first | (with_reducible first | exact HB.out | apply below_alloc | apply pw_below_drewN | apply below_drew1) | exact HB.out)) hb); clear HB; have HB := n0_; clear n0_; (try clear hb); (try clear hb2); (try clear hk); (try clear hi)))
    (try simp only [Act.put, List.setIfInBounds_toArray, List.set_cons_zero, List.set_cons_succ])
    go_cut [36] (fun v36 wc => ∃ (kq : Nat) (x36_6 : Bool), v36 = .bool x36_6 ∧ Aside0 (pantrylaw13_PassWeak.j0 kq a0 a1 a2 l3 x36_6 = some r) ∧ Aside0 (kq ≤ k) ∧ Aside0 (Below w.heap.size w wc))
    case first =>
      have H := HC7.out
      clear HC7
      by_cases c9 : a0 < 0
      · rw [if_pos c9] at H
        have c9b0 : decide (a0 < 0) = true := decide_eq_true c9
        clear c9
        (first | rw [c9b0] | (simp only [i64_w, i32_w]; rw [c9b0]) | skip)
        have H' := Aside0.mk H
        clear H
        go_wp2
        go_meet
        case rel => exact ⟨_, (true), (by first | rfl | (simp; done) | (simp [*]; done)), H', ⟨by first | omega | exact Nat.le_refl _⟩, ⟨by repeat (first | (with_reducible first | exact HB.out | apply below_alloc | apply pw_below_drewN | apply below_drew1) | exact HB.out)⟩⟩
      · rw [if_neg c9] at H
        have c9b0 : decide (a0 < 0) = false := decide_eq_false c9
        clear c9
        (first | rw [c9b0] | (simp only [i64_w, i32_w]; rw [c9b0]) | skip)
        by_cases c10 : a0 > 9
        · rw [if_pos c10] at H
          have c10b0 : decide (9 < a0) = true := decide_eq_true c10
          clear c10
          have H' := Aside0.mk H
          clear H
          go_wp2
          go_meet
          case rel => exact ⟨_, (true), (by first | rfl | (simp; done) | (simp [*]; done)), H', ⟨by first | omega | exact Nat.le_refl _⟩, ⟨by repeat (first | (with_reducible first | exact HB.out | apply below_alloc | apply pw_below_drewN | apply below_drew1) | exact HB.out)⟩⟩
        · rw [if_neg c10] at H
          have c10b0 : decide (9 < a0) = false := decide_eq_false c10
          clear c10
          by_cases c11 : a1 < 0
          · rw [if_pos c11] at H
            have c11b0 : decide (a1 < 0) = true := decide_eq_true c11
            clear c11
            have H' := Aside0.mk H
            clear H
            go_wp2
            go_meet
            case rel => exact ⟨_, (true), (by first | rfl | (simp; done) | (simp [*]; done)), H', ⟨by first | omega | exact Nat.le_refl _⟩, ⟨by repeat (first | (with_reducible first | exact HB.out | apply below_alloc | apply pw_below_drewN | apply below_drew1) | exact HB.out)⟩⟩
          · rw [if_neg c11] at H
            have c11b0 : decide (a1 < 0) = false := decide_eq_false c11
            clear c11
            by_cases c12 : a1 > 9
            · rw [if_pos c12] at H
              have c12b0 : decide (9 < a1) = true := decide_eq_true c12
              clear c12
              have H' := Aside0.mk H
              clear H
              go_wp2
              go_meet
              case rel => exact ⟨_, (true), (by first | rfl | (simp; done) | (simp [*]; done)), H', ⟨by first | omega | exact Nat.le_refl _⟩, ⟨by repeat (first | (with_reducible first | exact HB.out | apply below_alloc | apply pw_below_drewN | apply below_drew1) | exact HB.out)⟩⟩
            · rw [if_neg c12] at H
              have c12b0 : decide (9 < a1) = false := decide_eq_false c12
              clear c12
              have H' := Aside0.mk H
              clear H
              go_wp2
              go_meet
              case rel => exact ⟨_, (decide ((l3.length : Int) > 10)), (by first | rfl | (simp; done) | (simp [*]; done)), H', ⟨by first | omega | exact Nat.le_refl _⟩, ⟨by repeat (first | (with_reducible first | exact HB.out | apply below_alloc | apply pw_below_drewN | apply below_drew1) | exact HB.out)⟩⟩
    case rest =>
      clear HC7
      try clear c1
      try clear p2
      try clear c3
      try clear c6
      try clear c8
      try clear c9
      try clear c9b0
      try clear c10
      try clear c10b0
      try clear c11
      try clear c11b0
      try clear c12
      try clear c12b0
      obtain ⟨kq, x36_6, rfl, HA, HJ6, HB⟩ := hcut
      cases kq with
      | zero => exact absurd HA.out (by simp [pantrylaw13_PassWeak.j0])
      | succ kj6 =>
        have H := HA.out
        clear HA
        simp only [pantrylaw13_PassWeak.j0] at H
        by_cases c13 : x36_6 = true
        · subst c13
          have H1 : (some true) = some r := by rw [if_pos rfl] at H; exact H
          clear H
          have H := H1
          clear H1
          obtain rfl := Option.some.inj H
          go_wp2
          go_ret
          exact ⟨by first | rfl | (generalize ByteArray.toList _ = l_; cases l_ <;> rfl) | (simp [errW_none, errW_some] <;> rfl) | (simp [*, errW_none, errW_some] <;> rfl), by repeat (first | (with_reducible first | exact HB.out | apply below_alloc | apply pw_below_drewN | apply below_drew1) | exact HB.out)⟩
        · replace c13 := Bool.eq_false_iff.mpr c13
          subst c13
          have H1 : ((pantrylaw13_PassWeak_1.f a0).bind fun t215 => ((some (([(⟨(⟨#[69, 84, 97, 103]⟩ : ByteArray), t215⟩ : S49)] : List (S49)) : List (S49))).bind fun y216 => ((pantrylaw13_PassWeak_1.f a1).bind fun t219 => (if a2 = true then (if 2 + t219.size ≤ 9223372036854775807 then (pantrylaw13_PassWeak.j1 kj6 a0 a1 l3 y216 ((⟨#[87, 47]⟩ : ByteArray) ++ t219)) else (none)) else (pantrylaw13_PassWeak.j1 kj6 a0 a1 l3 y216 t219))))) = some r := by rw [if_neg (show ¬ (false = true) by decide)] at H; exact H
          clear H
          have H := H1
          clear H1
          replace H := Option.bind_eq_some_iff.mp H
          obtain ⟨t215, A140, H⟩ := H
          replace H : ((some (([(⟨(⟨#[69, 84, 97, 103]⟩ : ByteArray), t215⟩ : S49)] : List (S49)) : List (S49))).bind fun y216 => ((pantrylaw13_PassWeak_1.f a1).bind fun t219 => (if a2 = true then (if 2 + t219.size ≤ 9223372036854775807 then (pantrylaw13_PassWeak.j1 kj6 a0 a1 l3 y216 ((⟨#[87, 47]⟩ : ByteArray) ++ t219)) else (none)) else (pantrylaw13_PassWeak.j1 kj6 a0 a1 l3 y216 t219)))) = some r := H
          have A14 := Aside0.mk A140
          clear A140
          obtain ⟨y216, hy216⟩ : ∃ y_ : List (S49), y_ = (([(⟨(⟨#[69, 84, 97, 103]⟩ : ByteArray), t215⟩ : S49)] : List (S49))) := ⟨_, rfl⟩
          replace H : ((pantrylaw13_PassWeak_1.f a1).bind fun t219 => (if a2 = true then (if 2 + t219.size ≤ 9223372036854775807 then (pantrylaw13_PassWeak.j1 kj6 a0 a1 l3 y216 ((⟨#[87, 47]⟩ : ByteArray) ++ t219)) else (none)) else (pantrylaw13_PassWeak.j1 kj6 a0 a1 l3 y216 t219))) = some r := by first | (rw [hy216]; with_reducible exact H) | (have H2_ := (Option.bind_some _ _).symm.trans H; rw [hy216]; with_reducible exact H2_) | (have H2_ := (Option.bind_some _ _).symm.trans H; with_reducible exact H2_) | with_reducible exact H | (rw [hy216]; exact H) | exact H
          have Ny216 := Aside0.mk hy216
          clear hy216
          replace H := Option.bind_eq_some_iff.mp H
          obtain ⟨t219, A150, H⟩ := H
          replace H : (if a2 = true then (if 2 + t219.size ≤ 9223372036854775807 then (pantrylaw13_PassWeak.j1 kj6 a0 a1 l3 y216 ((⟨#[87, 47]⟩ : ByteArray) ++ t219)) else (none)) else (pantrylaw13_PassWeak.j1 kj6 a0 a1 l3 y216 t219)) = some r := H
          have A15 := Aside0.mk A150
          clear A150
          have HC16 := Aside0.mk H
          clear H
          go_upto_if 45 with (first | ((first | go_at_fn 32 | go_at_call 32); (with_reducible refine (pantrylaw13_PassWeak_1.calls a0 t215 _ A14.out).mono ?_); rintro e w17 ⟨rfl, hb⟩; have n0_ := Aside0.mk (below_step (by repeat (first | (with_reducible first | exact HB.out | apply below_alloc | apply pw_below_drewN | apply below_drew1) | exact HB.out)) hb); clear HB; have HB := n0_; clear n0_; (try clear hb); (try clear hb2); (try clear hk); (try clear hi)) | ((with_reducible refine gate_dst (N := 41) rfl ?_); (try (refine gate_guard (by rfl) ?_; dsimp only)); refine Kd.R_lit k49 _ 49 ?hg (N := 41) ?hd (xs := ([(⟨(⟨#[69, 84, 97, 103]⟩ : ByteArray), t215⟩ : S49)] : List (S49))) (inner := [.string (⟨#[69, 84, 97, 103]⟩ : ByteArray), .string t215]) (ok := fun _ => True) (okp := fun _ => True) ?hr ?hp (fun _ hk => hk) trivial (Below.refl _ _) (Nat.le_refl _) (by simp) ?_; (case hd => rfl); (case hg => rfl); (case hr => first | (go_simp; done) | (go_simp; rfl)); (case hp => exact (Reps.c2 (show Kd.M k49 _ _ _ (⟨(⟨#[69, 84, 97, 103]⟩ : ByteArray), t215⟩ : S49) [.string (⟨#[69, 84, 97, 103]⟩ : ByteArray), .string t215] from (k49_mkM _ _ _ (⟨(⟨#[69, 84, 97, 103]⟩ : ByteArray), t215⟩ : S49) )) (Reps.none _ _))); intro v217 w18 ho19 hb hg_ hnew_; clear hg_ hnew_; (first | rw [← Ny216.out] at ho19 | (simp only [Int.reduceToNat] at ho19; rw [← Ny216.out] at ho19)); have n0_ := Aside0.mk (Kd.R_lower ho19 (below_size (by repeat (first | (with_reducible first | exact HB.out | apply below_alloc | apply pw_below_drewN | apply below_drew1) | exact HB.out)))); have n1_ := Aside0.mk (below_step (by repeat (first | (with_reducible first | exact HB.out | apply below_alloc | apply pw_below_drewN | apply below_drew1) | exact HB.out)) hb); clear HB; have HO218 := n0_; have HB := n1_; clear n0_ n1_; clear hb ho19; obtain ⟨Aof, cof, eof⟩ := Kd.R_slice HO218.out; subst eof) | ((first | go_at_fn 32 | go_at_call 32); (with_reducible refine (pantrylaw13_PassWeak_1.calls a1 t219 _ A15.out).mono ?_); rintro e w20 ⟨rfl, hb⟩; have n0_ := Aside0.mk (Kd.R_below (by (with_reducible repeat (first | apply Kd.R_alloc | apply Kd.R_drewN | apply Kd.R_drew)); exact HO218.out) hb); have nf_ := Aside0.mk (blk_below (g := w18.heap.size) (o := .cells #[.slice Aof y216.length cof] 23 (0, 0)) (heap_alloc_new w18 (.cells #[.slice Aof y216.length cof] 23 (0, 0))) hb); have n1_ := Aside0.mk (below_step (by repeat (first | (with_reducible first | exact HB.out | apply below_alloc | apply pw_below_drewN | apply below_drew1) | exact HB.out)) hb); clear HO218; clear HB; have BKf := nf_; clear nf_; have HO218 := n0_; have HB := n1_; clear n0_ n1_; (try clear hb); (try clear hb2); (try clear hk); (try clear hi)))
          (try simp only [Act.put, List.setIfInBounds_toArray, List.set_cons_zero, List.set_cons_succ])
          go_cut [11] (fun v11 wc => ∃ (kq : Nat) (x11_15 : ByteArray), v11 = .string x11_15 ∧ Aside0 (pantrylaw13_PassWeak.j1 kq a0 a1 l3 y216 x11_15 = some r) ∧ Aside0 (kq ≤ kj6) ∧ Aside0 (Kd.R k49 49 wc w.heap.size (fun _ => True) (.slice Aof y216.length cof) y216) ∧ Aside0 (wc.heap[w18.heap.size]? = some (.cells #[.slice Aof y216.length cof] 23 (0, 0))) ∧ Aside0 (Below w.heap.size w wc))
          case first =>
            have H := HC16.out
            clear HC16
            by_cases c21 : a2 = true
            · subst c21
              have H1 : (if 2 + t219.size ≤ 9223372036854775807 then (pantrylaw13_PassWeak.j1 kj6 a0 a1 l3 y216 ((⟨#[87, 47]⟩ : ByteArray) ++ t219)) else (none)) = some r := by rw [if_pos rfl] at H; exact H
              clear H
              have H := H1
              clear H1
              by_cases c22 : 2 + t219.size ≤ 9223372036854775807
              · rw [if_pos c22] at H
                have c22b0 := eq_true c22
                have c22b1 : decide (2 + t219.size ≤ 9223372036854775807) = true := decide_eq_true c22
                try have c22b2 : (9223372036854775807 < 2 + t219.size) = False := eq_false (Nat.not_lt.2 c22)
                have H' := Aside0.mk H
                clear H
                go_wp2
                go_meet
                case rel => exact ⟨_, ((⟨#[87, 47]⟩ : ByteArray) ++ t219), (by first | rfl | (simp; done) | (simp [*]; done)), H', ⟨by have := HJ6.out; first | omega | exact Nat.le_refl _⟩, ⟨by (with_reducible repeat (first | apply Kd.R_alloc | apply Kd.R_drewN | apply Kd.R_drew)); exact HO218.out⟩, ⟨by (with_reducible repeat (first | refine blk_drewN ?_ _ | refine blk_drew ?_ | refine blk_alloc ?_ _)); exact BKf.out⟩, ⟨by repeat (first | (with_reducible first | exact HB.out | apply below_alloc | apply pw_below_drewN | apply below_drew1) | exact HB.out)⟩⟩
              · rw [if_neg c22] at H
                exact absurd H (by simp)
            · replace c21 := Bool.eq_false_iff.mpr c21
              subst c21
              have H1 : (pantrylaw13_PassWeak.j1 kj6 a0 a1 l3 y216 t219) = some r := by rw [if_neg (show ¬ (false = true) by decide)] at H; exact H
              clear H
              have H := H1
              clear H1
              have H' := Aside0.mk H
              clear H
              go_wp2
              go_meet
              case rel => exact ⟨_, (t219), (by first | rfl | (simp; done) | (simp [*]; done)), H', ⟨by have := HJ6.out; first | omega | exact Nat.le_refl _⟩, ⟨by (with_reducible repeat (first | apply Kd.R_alloc | apply Kd.R_drewN | apply Kd.R_drew)); exact HO218.out⟩, ⟨by (with_reducible repeat (first | refine blk_drewN ?_ _ | refine blk_drew ?_ | refine blk_alloc ?_ _)); exact BKf.out⟩, ⟨by repeat (first | (with_reducible first | exact HB.out | apply below_alloc | apply pw_below_drewN | apply below_drew1) | exact HB.out)⟩⟩
          case rest =>
            clear HC16
            try clear c1
            try clear c2
            try clear p2
            try clear c3
            try clear c6
            try clear c8
            try clear c9
            try clear c9b0
            try clear c10
            try clear c10b0
            try clear c11
            try clear c11b0
            try clear c12
            try clear c12b0
            try clear c13
            try clear c21
            try clear c22
            try clear c22b0
            try clear c22b1
            try clear c22b2
            try clear p2
            obtain ⟨kq, x11_15, rfl, HA, HJ15, HO_10, BKf, HB⟩ := hcut
            cases kq with
            | zero => exact absurd HA.out (by simp [pantrylaw13_PassWeak.j1])
            | succ kj15 =>
              have H := HA.out
              clear HA
              simp only [pantrylaw13_PassWeak.j1] at H
              have H' := Aside0.mk H
              clear H
              go_wp2
              go_loopg [11, 12, 53] kj15 (fun kq v11 v12 v53 w' => ∃ (x11_3 : ByteArray) (x12_3 : Bool) (x53_3 : Int), v11 = .string x11_3 ∧ v12 = .bool x12_3 ∧ v53 = .int .i64 x53_3 ∧ Aside0 (pantrylaw13_PassWeak.l0 kq a0 y216 x11_3 x12_3 l3 (l3.length : Int) x53_3 = some r) ∧ Aside0 (kq ≤ kj15) ∧ Aside0 (Kd.R k49 49 w' w.heap.size (fun _ => True) (.slice Aof y216.length cof) y216) ∧ Aside0 (w'.heap[w18.heap.size]? = some (.cells #[.slice Aof y216.length cof] 23 (0, 0))) ∧ Aside0 (Below w.heap.size w w'))
              case atStart => exact ⟨(x11_15), ((a0 == a1)), (0), (by first | rfl | (simp; done) | (simp [*]; done)), (by first | rfl | (simp; done) | (simp [*]; done)), (by first | rfl | (simp; done) | (simp [*]; done)), H', ⟨Nat.le_refl _⟩, ⟨by (with_reducible repeat (first | apply Kd.R_alloc | apply Kd.R_drewN | apply Kd.R_drew)); exact HO_10.out⟩, ⟨by (with_reducible repeat (first | refine blk_drewN ?_ _ | refine blk_drew ?_ | refine blk_alloc ?_ _)); exact BKf.out⟩, ⟨by repeat (first | (with_reducible first | exact HB.out | apply below_alloc | apply pw_below_drewN | apply below_drew1) | exact HB.out)⟩⟩
              case round =>
                clear H'
                try clear c1
                try clear c2
                try clear p2
                try clear c3
                try clear c6
                try clear c8
                try clear c9
                try clear c9b0
                try clear c10
                try clear c10b0
                try clear c11
                try clear c11b0
                try clear c12
                try clear c12b0
                try clear c13
                try clear c21
                try clear c22
                try clear c22b0
                try clear c22b1
                try clear c22b2
                try clear p2
                obtain ⟨x11_3, x12_3, x53_3, rfl, rfl, rfl, HA, HK3, HO_10, BKf, HB⟩ := hrel
                cases gk with
                | zero => exact absurd HA.out (by simp [pantrylaw13_PassWeak.l0])
                | succ k3 =>
                  have H := HA.out
                  clear HA
                  simp only [pantrylaw13_PassWeak.l0] at H
                  by_cases c23 : x53_3 < (l3.length : Int)
                  · rw [if_pos c23] at H
                    have c23b0 : decide (x53_3 < (l3.length : Int)) = true := decide_eq_true c23
                    clear c23
                    by_cases c24 : 0 ≤ x53_3
                    · rw [if_pos c24] at H
                      have c24b0 : decide (0 ≤ x53_3) = true := decide_eq_true c24
                      clear c24
                      by_cases c25 : x53_3 < (l3.length : Int)
                      · rw [if_pos c25] at H
                        have c25b0 : decide (x53_3 < (l3.length : Int)) = true := decide_eq_true c25
                        clear c25
                        by_cases c26 : (rd l3 x53_3) < 0
                        · rw [if_pos c26] at H
                          have c26b0 : decide ((rd l3 x53_3) < 0) = true := decide_eq_true c26
                          clear c26
                          obtain rfl := Option.some.inj H
                          have p220 : 0 ≤ (x53_3 : Int) := of_decide_eq_true (by first | (with_reducible assumption) | assumption)
                          have q220 : x53_3 < (l3.length : Int) := of_decide_eq_true (by first | (with_reducible assumption) | assumption)
                          obtain ⟨ad220, e220, hx220_0⟩ := Kd.at_int HR3.out x53_3 p220 q220
                          cases e220
                          replace hx220_0 := (HB.out.cell (World.block_lt_of_cell? w _ hx220_0)).trans hx220_0
                          replace p220 := eq_true p220
                          replace q220 := eq_true q220
                          go_wp2
                          go_ret
                          exact ⟨by first | rfl | (generalize ByteArray.toList _ = l_; cases l_ <;> rfl) | (simp [errW_none, errW_some] <;> rfl) | (simp [*, errW_none, errW_some] <;> rfl), by repeat (first | (with_reducible first | exact HB.out | apply below_alloc | apply pw_below_drewN | apply below_drew1) | exact HB.out)⟩
                        · rw [if_neg c26] at H
                          have c26b0 : decide ((rd l3 x53_3) < 0) = false := decide_eq_false c26
                          clear c26
                          by_cases c27 : (rd l3 x53_3) > 9
                          · rw [if_pos c27] at H
                            have c27b0 : decide (9 < (rd l3 x53_3)) = true := decide_eq_true c27
                            clear c27
                            obtain rfl := Option.some.inj H
                            have p220 : 0 ≤ (x53_3 : Int) := of_decide_eq_true (by first | (with_reducible assumption) | assumption)
                            have q220 : x53_3 < (l3.length : Int) := of_decide_eq_true (by first | (with_reducible assumption) | assumption)
                            obtain ⟨ad220, e220, hx220_0⟩ := Kd.at_int HR3.out x53_3 p220 q220
                            cases e220
                            replace hx220_0 := (HB.out.cell (World.block_lt_of_cell? w _ hx220_0)).trans hx220_0
                            replace p220 := eq_true p220
                            replace q220 := eq_true q220
                            go_wp2
                            go_ret
                            exact ⟨by first | rfl | (generalize ByteArray.toList _ = l_; cases l_ <;> rfl) | (simp [errW_none, errW_some] <;> rfl) | (simp [*, errW_none, errW_some] <;> rfl), by repeat (first | (with_reducible first | exact HB.out | apply below_alloc | apply pw_below_drewN | apply below_drew1) | exact HB.out)⟩
                          · rw [if_neg c27] at H
                            have c27b0 : decide (9 < (rd l3 x53_3)) = false := decide_eq_false c27
                            clear c27
                            replace H := Option.bind_eq_some_iff.mp H
                            obtain ⟨t221, A280, H⟩ := H
                            replace H : (if 2 + t221.size ≤ 9223372036854775807 then (if x11_3.size + ((⟨#[44, 32]⟩ : ByteArray) ++ t221).size ≤ 9223372036854775807 then (if x12_3 = true then (pantrylaw13_PassWeak.l0 k3 a0 y216 (x11_3 ++ ((⟨#[44, 32]⟩ : ByteArray) ++ t221)) true l3 (l3.length : Int) (wrap64 (x53_3 + 1))) else (pantrylaw13_PassWeak.l0 k3 a0 y216 (x11_3 ++ ((⟨#[44, 32]⟩ : ByteArray) ++ t221)) ((rd l3 x53_3) == a0) l3 (l3.length : Int) (wrap64 (x53_3 + 1)))) else (none)) else (none)) = some r := H
                            have A28 := Aside0.mk A280
                            clear A280
                            by_cases c29 : 2 + t221.size ≤ 9223372036854775807
                            · rw [if_pos c29] at H
                              have c29b0 := eq_true c29
                              have c29b1 : decide (2 + t221.size ≤ 9223372036854775807) = true := decide_eq_true c29
                              try have c29b2 : (9223372036854775807 < 2 + t221.size) = False := eq_false (Nat.not_lt.2 c29)
                              by_cases c30 : x11_3.size + ((⟨#[44, 32]⟩ : ByteArray) ++ t221).size ≤ 9223372036854775807
                              · rw [if_pos c30] at H
                                have c30b0 := eq_true c30
                                have c30b1 : decide (x11_3.size + ((⟨#[44, 32]⟩ : ByteArray) ++ t221).size ≤ 9223372036854775807) = true := decide_eq_true c30
                                try have c30b2 : (9223372036854775807 < x11_3.size + ((⟨#[44, 32]⟩ : ByteArray) ++ t221).size) = False := eq_false (Nat.not_lt.2 c30)
                                try have c30b5 : (9223372036854775807 < x11_3.size + (2 + t221.size)) = False := by have h_ := c30; (try simp only [ByteArray.size_append] at h_); exact eq_false (Nat.not_lt.2 h_)
                                by_cases c31 : x12_3 = true
                                · subst c31
                                  have H1 : (pantrylaw13_PassWeak.l0 k3 a0 y216 (x11_3 ++ ((⟨#[44, 32]⟩ : ByteArray) ++ t221)) true l3 (l3.length : Int) (wrap64 (x53_3 + 1))) = some r := by rw [if_pos rfl] at H; exact H
                                  clear H
                                  have H := H1
                                  clear H1
                                  have H' := Aside0.mk H
                                  clear H
                                  have p220 : 0 ≤ (x53_3 : Int) := of_decide_eq_true (by first | (with_reducible assumption) | assumption)
                                  have q220 : x53_3 < (l3.length : Int) := of_decide_eq_true (by first | (with_reducible assumption) | assumption)
                                  obtain ⟨ad220, e220, hx220_0⟩ := Kd.at_int HR3.out x53_3 p220 q220
                                  cases e220
                                  replace hx220_0 := (HB.out.cell (World.block_lt_of_cell? w _ hx220_0)).trans hx220_0
                                  replace p220 := eq_true p220
                                  replace q220 := eq_true q220
                                  go_wp2_with (first | ((first | go_at_fn 32 | go_at_call 32); (with_reducible refine (pantrylaw13_PassWeak_1.calls (rd l3 x53_3) t221 _ A28.out).mono ?_); rintro e w32 ⟨rfl, hb⟩; have n0_ := Aside0.mk (Kd.R_below (by (with_reducible repeat (first | apply Kd.R_alloc | apply Kd.R_drewN | apply Kd.R_drew)); exact HO_10.out) hb); have nf_ := Aside0.mk (blk_below (g := w18.heap.size) (o := .cells #[.slice Aof y216.length cof] 23 (0, 0)) (by (with_reducible repeat (first | refine blk_drewN ?_ _ | refine blk_drew ?_ | refine blk_alloc ?_ _)); exact BKf.out) hb); clear BKf; have BKf := nf_; clear nf_; have n1_ := Aside0.mk (below_step (by repeat (first | (with_reducible first | exact HB.out | apply below_alloc | apply pw_below_drewN | apply below_drew1) | exact HB.out)) hb); clear HO_10; clear HB; have HO_10 := n0_; have HB := n1_; clear n0_ n1_; (try clear hb); (try clear hb2); (try clear hk); (try clear hi)))
                                  go_roundg k3
                                  case measure => have := HJ6.out; have := HJ15.out; have := HK3.out; omega
                                  case rel => exact ⟨(x11_3 ++ ((⟨#[44, 32]⟩ : ByteArray) ++ t221)), (true), (wrap64 (x53_3 + 1)), (by first | rfl | (simp; done) | (simp [*]; done)), (by first | rfl | (simp; done) | (simp [*]; done)), (by first | rfl | (simp; done) | (simp [*]; done)), H', ⟨by have := HJ6.out; have := HJ15.out; have := HK3.out; omega⟩, ⟨by (with_reducible repeat (first | apply Kd.R_alloc | apply Kd.R_drewN | apply Kd.R_drew)); exact HO_10.out⟩, ⟨by (with_reducible repeat (first | refine blk_drewN ?_ _ | refine blk_drew ?_ | refine blk_alloc ?_ _)); exact BKf.out⟩, ⟨by repeat (first | (with_reducible first | exact HB.out | apply below_alloc | apply pw_below_drewN | apply below_drew1) | exact HB.out)⟩⟩
                                · replace c31 := Bool.eq_false_iff.mpr c31
                                  subst c31
                                  have H1 : (pantrylaw13_PassWeak.l0 k3 a0 y216 (x11_3 ++ ((⟨#[44, 32]⟩ : ByteArray) ++ t221)) ((rd l3 x53_3) == a0) l3 (l3.length : Int) (wrap64 (x53_3 + 1))) = some r := by rw [if_neg (show ¬ (false = true) by decide)] at H; exact H
                                  clear H
                                  have H := H1
                                  clear H1
                                  have H' := Aside0.mk H
                                  clear H
                                  have p220 : 0 ≤ (x53_3 : Int) := of_decide_eq_true (by first | (with_reducible assumption) | assumption)
                                  have q220 : x53_3 < (l3.length : Int) := of_decide_eq_true (by first | (with_reducible assumption) | assumption)
                                  obtain ⟨ad220, e220, hx220_0⟩ := Kd.at_int HR3.out x53_3 p220 q220
                                  cases e220
                                  replace hx220_0 := (HB.out.cell (World.block_lt_of_cell? w _ hx220_0)).trans hx220_0
                                  replace p220 := eq_true p220
                                  replace q220 := eq_true q220
                                  go_wp2_with (first | ((first | go_at_fn 32 | go_at_call 32); (with_reducible refine (pantrylaw13_PassWeak_1.calls (rd l3 x53_3) t221 _ A28.out).mono ?_); rintro e w33 ⟨rfl, hb⟩; have n0_ := Aside0.mk (Kd.R_below (by (with_reducible repeat (first | apply Kd.R_alloc | apply Kd.R_drewN | apply Kd.R_drew)); exact HO_10.out) hb); have nf_ := Aside0.mk (blk_below (g := w18.heap.size) (o := .cells #[.slice Aof y216.length cof] 23 (0, 0)) (by (with_reducible repeat (first | refine blk_drewN ?_ _ | refine blk_drew ?_ | refine blk_alloc ?_ _)); exact BKf.out) hb); clear BKf; have BKf := nf_; clear nf_; have n1_ := Aside0.mk (below_step (by repeat (first | (with_reducible first | exact HB.out | apply below_alloc | apply pw_below_drewN | apply below_drew1) | exact HB.out)) hb); clear HO_10; clear HB; have HO_10 := n0_; have HB := n1_; clear n0_ n1_; (try clear hb); (try clear hb2); (try clear hk); (try clear hi)))
                                  go_roundg k3
                                  case measure => have := HJ6.out; have := HJ15.out; have := HK3.out; omega
                                  case rel => exact ⟨(x11_3 ++ ((⟨#[44, 32]⟩ : ByteArray) ++ t221)), (((rd l3 x53_3) == a0)), (wrap64 (x53_3 + 1)), (by first | rfl | (simp; done) | (simp [*]; done)), (by first | rfl | (simp; done) | (simp [*]; done)), (by first | rfl | (simp; done) | (simp [*]; done)), H', ⟨by have := HJ6.out; have := HJ15.out; have := HK3.out; omega⟩, ⟨by (with_reducible repeat (first | apply Kd.R_alloc | apply Kd.R_drewN | apply Kd.R_drew)); exact HO_10.out⟩, ⟨by (with_reducible repeat (first | refine blk_drewN ?_ _ | refine blk_drew ?_ | refine blk_alloc ?_ _)); exact BKf.out⟩, ⟨by repeat (first | (with_reducible first | exact HB.out | apply below_alloc | apply pw_below_drewN | apply below_drew1) | exact HB.out)⟩⟩
                              · rw [if_neg c30] at H
                                exact absurd H (by simp)
                            · rw [if_neg c29] at H
                              exact absurd H (by simp)
                      · rw [if_neg c25] at H
                        exact absurd H (by simp)
                    · rw [if_neg c24] at H
                      exact absurd H (by simp)
                  · rw [if_neg c23] at H
                    have c23b0 : decide (x53_3 < (l3.length : Int)) = false := decide_eq_false c23
                    clear c23
                    replace H := Option.bind_eq_some_iff.mp H
                    obtain ⟨t222, A340, H⟩ := H
                    replace H : (if (t222 == x12_3) = true then ((pantrylaw13_PassWeak_2.f k3 (⟨#[42]⟩ : ByteArray) y216).bind fun t223 => (if t223 = true then (if x11_3.size + 3 ≤ 9223372036854775807 then ((pantrylaw13_PassWeak_2.f k3 (x11_3 ++ (⟨#[44, 32, 42]⟩ : ByteArray)) y216).bind fun t224 => (if t224 = true then ((pantrylaw13_PassWeak_2.f k3 (⟨#[]⟩ : ByteArray) y216).bind fun t225 => (some (!t225))) else (none))) else (none)) else (none))) else (none)) = some r := H
                    have A34 := Aside0.mk A340
                    clear A340
                    by_cases c35 : (t222 == x12_3) = true
                    · rw [if_pos c35] at H
                      have c35b0 : (t222 == x12_3) = true := c35
                      (try (have c35b1 : decide (t222 = x12_3) = true := by simpa using c35))
                      (try (have c35b2 : (t222 == x12_3) = true := by simpa using c35))
                      clear c35
                      replace H := Option.bind_eq_some_iff.mp H
                      obtain ⟨t223, A360, H⟩ := H
                      replace H : (if t223 = true then (if x11_3.size + 3 ≤ 9223372036854775807 then ((pantrylaw13_PassWeak_2.f k3 (x11_3 ++ (⟨#[44, 32, 42]⟩ : ByteArray)) y216).bind fun t224 => (if t224 = true then ((pantrylaw13_PassWeak_2.f k3 (⟨#[]⟩ : ByteArray) y216).bind fun t225 => (some (!t225))) else (none))) else (none)) else (none)) = some r := H
                      have A36 := Aside0.mk A360
                      clear A360
                      by_cases c37 : t223 = true
                      · subst c37
                        have H1 : (if x11_3.size + 3 ≤ 9223372036854775807 then ((pantrylaw13_PassWeak_2.f k3 (x11_3 ++ (⟨#[44, 32, 42]⟩ : ByteArray)) y216).bind fun t224 => (if t224 = true then ((pantrylaw13_PassWeak_2.f k3 (⟨#[]⟩ : ByteArray) y216).bind fun t225 => (some (!t225))) else (none))) else (none)) = some r := by rw [if_pos rfl] at H; exact H
                        clear H
                        have H := H1
                        clear H1
                        by_cases c38 : x11_3.size + 3 ≤ 9223372036854775807
                        · rw [if_pos c38] at H
                          have c38b0 := eq_true c38
                          have c38b1 : decide (x11_3.size + 3 ≤ 9223372036854775807) = true := decide_eq_true c38
                          try have c38b2 : (9223372036854775807 < x11_3.size + 3) = False := eq_false (Nat.not_lt.2 c38)
                          replace H := Option.bind_eq_some_iff.mp H
                          obtain ⟨t224, A390, H⟩ := H
                          replace H : (if t224 = true then ((pantrylaw13_PassWeak_2.f k3 (⟨#[]⟩ : ByteArray) y216).bind fun t225 => (some (!t225))) else (none)) = some r := H
                          have A39 := Aside0.mk A390
                          clear A390
                          by_cases c40 : t224 = true
                          · subst c40
                            have H1 : ((pantrylaw13_PassWeak_2.f k3 (⟨#[]⟩ : ByteArray) y216).bind fun t225 => (some (!t225))) = some r := by rw [if_pos rfl] at H; exact H
                            clear H
                            have H := H1
                            clear H1
                            replace H := Option.bind_eq_some_iff.mp H
                            obtain ⟨t225, A410, H⟩ := H
                            replace H : (some (!t225)) = some r := H
                            have A41 := Aside0.mk A410
                            clear A410
                            obtain rfl := Option.some.inj H
                            go_wp2_with (first | ((first | go_at_call 33 | go_at_fn 33); (with_reducible refine (pantrylaw13_PassWeak_2.calls k3 x11_3 Aof cof y216 t222 _ ?side1 ?side2 ?side3 ?sideb A34.out).mono ?_); (case sideb => (with_reducible repeat (first | refine blk_drewN ?_ _ | refine blk_drew ?_ | refine blk_alloc ?_ _)); exact BKf.out); (case side1 => repeat (first | exact (Kd.R_reads' HO_10.out).2.2 | (with_reducible refine Kd.C_alloc ?_ _) | (with_reducible refine Kd.C_drewN ?_ _) | (with_reducible refine Kd.C_drew ?_))); (case side2 => exact (Kd.R_reads' HO_10.out).2.1); (case side3 => repeat (first | exact (WF.below HRW.out HB.out) | (with_reducible refine Kd.C_alloc ?_ _) | (with_reducible refine Kd.C_drewN ?_ _) | (with_reducible refine Kd.C_drew ?_))); rintro e w43 ⟨rfl, hb⟩; have n0_ := Aside0.mk (Kd.R_below (by (with_reducible repeat (first | apply Kd.R_alloc | apply Kd.R_drewN | apply Kd.R_drew)); exact HO_10.out) hb); have nf_ := Aside0.mk (blk_below (g := w18.heap.size) (o := .cells #[.slice Aof y216.length cof] 23 (0, 0)) (by (with_reducible repeat (first | refine blk_drewN ?_ _ | refine blk_drew ?_ | refine blk_alloc ?_ _)); exact BKf.out) hb); clear BKf; have BKf := nf_; clear nf_; have n1_ := Aside0.mk (below_step (by repeat (first | (with_reducible first | exact HB.out | apply below_alloc | apply pw_below_drewN | apply below_drew1) | exact HB.out)) hb); clear HO_10; clear HB; have HO_10 := n0_; have HB := n1_; clear n0_ n1_; (try clear hb); (try clear hb2); (try clear hk); (try clear hi)) | ((first | go_at_call 33 | go_at_fn 33); (with_reducible refine (pantrylaw13_PassWeak_2.calls k3 (⟨#[42]⟩ : ByteArray) Aof cof y216 true _ ?side1 ?side2 ?side3 ?sideb A36.out).mono ?_); (case sideb => (with_reducible repeat (first | refine blk_drewN ?_ _ | refine blk_drew ?_ | refine blk_alloc ?_ _)); exact BKf.out); (case side1 => repeat (first | exact (Kd.R_reads' HO_10.out).2.2 | (with_reducible refine Kd.C_alloc ?_ _) | (with_reducible refine Kd.C_drewN ?_ _) | (with_reducible refine Kd.C_drew ?_))); (case side2 => exact (Kd.R_reads' HO_10.out).2.1); (case side3 => repeat (first | exact (WF.below HRW.out HB.out) | (with_reducible refine Kd.C_alloc ?_ _) | (with_reducible refine Kd.C_drewN ?_ _) | (with_reducible refine Kd.C_drew ?_))); rintro e w44 ⟨rfl, hb⟩; have n0_ := Aside0.mk (Kd.R_below (by (with_reducible repeat (first | apply Kd.R_alloc | apply Kd.R_drewN | apply Kd.R_drew)); exact HO_10.out) hb); have nf_ := Aside0.mk (blk_below (g := w18.heap.size) (o := .cells #[.slice Aof y216.length cof] 23 (0, 0)) (by (with_reducible repeat (first | refine blk_drewN ?_ _ | refine blk_drew ?_ | refine blk_alloc ?_ _)); exact BKf.out) hb); clear BKf; have BKf := nf_; clear nf_; have n1_ := Aside0.mk (below_step (by repeat (first | (with_reducible first | exact HB.out | apply below_alloc | apply pw_below_drewN | apply below_drew1) | exact HB.out)) hb); clear HO_10; clear HB; have HO_10 := n0_; have HB := n1_; clear n0_ n1_; (try clear hb); (try clear hb2); (try clear hk); (try clear hi)) | ((first | go_at_call 33 | go_at_fn 33); (with_reducible refine (pantrylaw13_PassWeak_2.calls k3 (x11_3 ++ (⟨#[44, 32, 42]⟩ : ByteArray)) Aof cof y216 true _ ?side1 ?side2 ?side3 ?sideb A39.out).mono ?_); (case sideb => (with_reducible repeat (first | refine blk_drewN ?_ _ | refine blk_drew ?_ | refine blk_alloc ?_ _)); exact BKf.out); (case side1 => repeat (first | exact (Kd.R_reads' HO_10.out).2.2 | (with_reducible refine Kd.C_alloc ?_ _) | (with_reducible refine Kd.C_drewN ?_ _) | (with_reducible refine Kd.C_drew ?_))); (case side2 => exact (Kd.R_reads' HO_10.out).2.1); (case side3 => repeat (first | exact (WF.below HRW.out HB.out) | (with_reducible refine Kd.C_alloc ?_ _) | (with_reducible refine Kd.C_drewN ?_ _) | (with_reducible refine Kd.C_drew ?_))); rintro e w45 ⟨rfl, hb⟩; have n0_ := Aside0.mk (Kd.R_below (by (with_reducible repeat (first | apply Kd.R_alloc | apply Kd.R_drewN | apply Kd.R_drew)); exact HO_10.out) hb); have nf_ := Aside0.mk (blk_below (g := w18.heap.size) (o := .cells #[.slice Aof y216.length cof] 23 (0, 0)) (by (with_reducible repeat (first | refine blk_drewN ?_ _ | refine blk_drew ?_ | refine blk_alloc ?_ _)); exact BKf.out) hb); clear BKf; have BKf := nf_; clear nf_; have n1_ := Aside0.mk (below_step (by repeat (first | (with_reducible first | exact HB.out | apply below_alloc | apply pw_below_drewN | apply below_drew1) | exact HB.out)) hb); clear HO_10; clear HB; have HO_10 := n0_; have HB := n1_; clear n0_ n1_; (try clear hb); (try clear hb2); (try clear hk); (try clear hi)) | ((first | go_at_call 33 | go_at_fn 33); (with_reducible refine (pantrylaw13_PassWeak_2.calls k3 (⟨#[]⟩ : ByteArray) Aof cof y216 t225 _ ?side1 ?side2 ?side3 ?sideb A41.out).mono ?_); (case sideb => (with_reducible repeat (first | refine blk_drewN ?_ _ | refine blk_drew ?_ | refine blk_alloc ?_ _)); exact BKf.out); (case side1 => repeat (first | exact (Kd.R_reads' HO_10.out).2.2 | (with_reducible refine Kd.C_alloc ?_ _) | (with_reducible refine Kd.C_drewN ?_ _) | (with_reducible refine Kd.C_drew ?_))); (case side2 => exact (Kd.R_reads' HO_10.out).2.1); (case side3 => repeat (first | exact (WF.below HRW.out HB.out) | (with_reducible refine Kd.C_alloc ?_ _) | (with_reducible refine Kd.C_drewN ?_ _) | (with_reducible refine Kd.C_drew ?_))); rintro e w46 ⟨rfl, hb⟩; have n0_ := Aside0.mk (Kd.R_below (by (with_reducible repeat (first | apply Kd.R_alloc | apply Kd.R_drewN | apply Kd.R_drew)); exact HO_10.out) hb); have nf_ := Aside0.mk (blk_below (g := w18.heap.size) (o := .cells #[.slice Aof y216.length cof] 23 (0, 0)) (by (with_reducible repeat (first | refine blk_drewN ?_ _ | refine blk_drew ?_ | refine blk_alloc ?_ _)); exact BKf.out) hb); clear BKf; have BKf := nf_; clear nf_; have n1_ := Aside0.mk (below_step (by repeat (first | (with_reducible first | exact HB.out | apply below_alloc | apply pw_below_drewN | apply below_drew1) | exact HB.out)) hb); clear HO_10; clear HB; have HO_10 := n0_; have HB := n1_; clear n0_ n1_; (try clear hb); (try clear hb2); (try clear hk); (try clear hi)))
                            go_ret
                            exact ⟨by first | rfl | (generalize ByteArray.toList _ = l_; cases l_ <;> rfl) | (simp [errW_none, errW_some] <;> rfl) | (simp [*, errW_none, errW_some] <;> rfl), by repeat (first | (with_reducible first | exact HB.out | apply below_alloc | apply pw_below_drewN | apply below_drew1) | exact HB.out)⟩
                          · replace c40 := Bool.eq_false_iff.mpr c40
                            subst c40
                            have H1 : (none) = some r := by rw [if_neg (show ¬ (false = true) by decide)] at H; exact H
                            clear H
                            have H := H1
                            clear H1
                            exact absurd H (by simp)
                        · rw [if_neg c38] at H
                          exact absurd H (by simp)
                      · replace c37 := Bool.eq_false_iff.mpr c37
                        subst c37
                        have H1 : (none) = some r := by rw [if_neg (show ¬ (false = true) by decide)] at H; exact H
                        clear H
                        have H := H1
                        clear H1
                        exact absurd H (by simp)
                    · rw [if_neg c35] at H
                      exact absurd H (by simp)
  · replace c6 := Bool.eq_false_iff.mpr c6
    subst c6
    have H1 : (none) = some r := by rw [if_neg (show ¬ (false = true) by decide)] at H; exact H
    clear H
    have H := H1
    clear H1
    exact absurd H (by simp)

/-- THE ONE PURE STATEMENT of pantrylaw13_PassWeak: yours. -/
def pantrylaw13_PassWeak.Pure : Prop := ∀ (a0 : Int) (a1 : Int) (a2 : Bool) (l3 : List Int), (Lit.int .i64 a0).wf = true → (Lit.int .i64 a1).wf = true → l3.length ≤ maxLen → l3.length * 8 ≤ 140737488351232 → (∀ x ∈ l3, (Lit.int .i64 x).wf = true) → ∃ k, pantrylaw13_PassWeak.f k a0 a1 a2 l3 = some true
theorem pantrylaw13_PassWeak.walk (P : pantrylaw13_PassWeak.Pure) (a0 : Int) (a1 : Int) (a2 : Bool) (a3 : Option Addr) (len3 cap3 : Nat) (z3 : List Int) (w : World) (w0 : (Lit.int .i64 a0).wf = true) (w1 : (Lit.int .i64 a1).wf = true) (w3 : (a3 = none ∧ len3 = 0 ∧ cap3 = 0 ∧ z3 = []) ∨ ∃ x, a3 = some x ∧ len3 ≤ cap3 ∧ cap3 ≤ maxLen ∧ z3.length = cap3 ∧ (∀ i, i < z3.length → w.cell? (x.add i) = some (.int .i64 (z3.getD i 0))) ∧ ∀ n ∈ z3, (Lit.int .i64 n).wf = true) (y3 : len3 * 8 ≤ 140737488351232) (hrW : WF w) :
    Calls Tryd.prog 8 #[.int .i64 a0, .int .i64 a1, .bool a2, .slice a3 len3 cap3] w fun e w' => e = .returned (.bool true) ∧ Below w.heap.size w w' := by
  obtain ⟨l3, rfl, hr3, hm3, hw3, hc3⟩ := ReadsInt.ofRowC w3
  obtain ⟨k, h⟩ := P a0 a1 a2 l3 w0 w1 hm3 y3 hw3
  refine (pantrylaw13_PassWeak.calls k a0 a1 a2 _ _ l3 true w (Kd.C_of_reads (d := (0 : Int)) (h1 := fun _ => rfl) hr3) hc3 hrW h).mono ?_
  rintro e w' ⟨rfl, hd⟩
  exact ⟨rfl, hd⟩

end Go.Proofs.YtcechlbeghcliaaDoor.PAll
