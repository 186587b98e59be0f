-- Text by a program of this session, over what print.py prints.
import Derived.Test.YtboeabdfnijaaaaDoorPAllx0
import Derived.Test.YtboeabdfnijaaaaDoorPAllx1
import Derived.Test.YtboeabdfnijaaaaDoorPAllx2
import Derived.Test.YtboeabdfnijaaaaDoorPAllx5
namespace Go.Proofs.YtboeabdfnijaaaaDoor.PAll
open Go.RowKit Go.Proofs.YtboeabdfnijaaaaDoorW.PrintWords Go.Proofs.YtboeabdfnijaaaaDoorW.PrintLast Go.Proofs.YtboeabdfnijaaaaDoorW.PrintMore
attribute [local go_sem] max2_int min2_int max_two min_two max_three min_three max_four min_four   -- for this text's walks alone
set_option linter.unusedVariables false
set_option linter.unusedSimpArgs false

attribute [local go_sem high] eqA29
/-! The loop over seven pointers into one struct -/
def fldOf : Nat → Nat
  | 0 => 0
  | 1 => 1
  | 2 => 2
  | 3 => 3
  | 4 => 4
  | 5 => 4
  | _ => 5
def ptrsOf (g : Nat) : Array Value := #[.pointer (some ⟨g, 0, none⟩), .pointer (some ⟨g, 1, none⟩), .pointer (some ⟨g, 2, none⟩), .pointer (some ⟨g, 3, none⟩), .pointer (some ⟨g, 4, none⟩), .pointer (some ⟨g, 4, none⟩), .pointer (some ⟨g, 5, none⟩)]
theorem ptrs_at (g n : Nat) (h : n < 7) : (ptrsOf g)[n]? = some (.pointer (some ⟨g, fldOf n, none⟩)) := by
  match n, h with
  | 0, _ => rfl
  | 1, _ => rfl
  | 2, _ => rfl
  | 3, _ => rfl
  | 4, _ => rfl
  | 5, _ => rfl
  | 6, _ => rfl
  | n + 7, h => omega
def flg (a n j : Nat) : Bool := Nat.ble (a + 1) n && Nat.beq (fldOf a) j
def flgCells (a n : Nat) : Array Value := #[.bool (flg a n 0), .bool (flg a n 1), .bool (flg a n 2), .bool (flg a n 3), .bool (flg a n 4), .bool (flg a n 5), .int .i64 (-1), .int .i64 (-1), .int .i64 (-1), .int .i64 (-1)]
theorem cells_fresh (a : Nat) (h : a < 7) : (flgCells a a)[fldOf a]? = some (.bool false) := by
  match a, h with
  | 0, _ => rfl
  | 1, _ => rfl
  | 2, _ => rfl
  | 3, _ => rfl
  | 4, _ => rfl
  | 5, _ => rfl
  | 6, _ => rfl
  | a + 7, h => omega
theorem cells_step (a : Nat) (h : a < 7) : (flgCells a a).setIfInBounds (fldOf a) (.bool true) = flgCells a (a + 1) := by
  match a, h with
  | 0, _ => rfl
  | 1, _ => rfl
  | 2, _ => rfl
  | 3, _ => rfl
  | 4, _ => rfl
  | 5, _ => rfl
  | 6, _ => rfl
  | a + 7, h => omega
theorem cells_same (a n : Nat) (h : n ≠ a) : flgCells a (n + 1) = flgCells a n := by
  have e : Nat.ble (a + 1) (n + 1) = Nat.ble (a + 1) n := by
    rw [Bool.eq_iff_iff, Nat.ble_eq, Nat.ble_eq]
    omega
  unfold flgCells flg
  rw [e]
theorem cells_end (x : Int) (a : Nat) (hx : x = (a : Int)) (h : a < 8) : flgCells a 7 = #[.bool (x == 0), .bool (x == 1), .bool (x == 2), .bool (x == 3), .bool ((wrap64 (Int.tdiv x 2)) == 2), .bool (x == 6), .int .i64 (-1), .int .i64 (-1), .int .i64 (-1), .int .i64 (-1)] := by
  subst hx
  rcases (show a = 0 ∨ a = 1 ∨ a = 2 ∨ a = 3 ∨ a = 4 ∨ a = 5 ∨ a = 6 ∨ a = 7 by omega) with rfl | rfl | rfl | rfl | rfl | rfl | rfl | rfl
  all_goals kernel_rfl
/-- A text's first byte, 32 less. -/
def greatL : List UInt8 → List UInt8
  | [] => []
  | c :: l => UInt8.ofNat ((((c.toNat : Int) - 32) % 256).toNat) :: l
def greatB.f (s : ByteArray) : Option ByteArray := if s.size = 0 then none else some ⟨(greatL s.data.toList).toArray⟩
/-! ### pantrylaw04_ControlFlags: function 6 -/
mutual
def pantrylaw04_ControlFlags.j0 : Nat → Int → Bool → ByteArray → Bool → Option (Bool)
  | 0, _, _, _, _ => none
  | k + 1, x0, x1, x2, x25 => if x25 = true then (some true) else (pantrylaw04_ControlFlags.l0 k x0 x1 x2 (x2.size : Int) 0)
def pantrylaw04_ControlFlags.l0 : Nat → Int → Bool → ByteArray → Int → Int → Option (Bool)
  | 0, _, _, _, _, _ => none
  | k + 1, x0, x1, x2, x27, x28 => if x28 < x27 then (if 0 ≤ x28 then (if x28 < (x2.size : Int) then (if (bt x2 x28) = 44 then (some true) else (if (bt x2 x28) = 34 then (some true) else (pantrylaw04_ControlFlags.l0 k x0 x1 x2 x27 (wrap64 (x28 + 1))))) else (none)) else (none)) else ((some (([(⟨#[110, 111, 45, 115, 116, 111, 114, 101]⟩ : ByteArray), (⟨#[110, 111, 45, 99, 97, 99, 104, 101]⟩ : ByteArray), (⟨#[112, 114, 105, 118, 97, 116, 101]⟩ : ByteArray), (⟨#[112, 117, 98, 108, 105, 99]⟩ : ByteArray), (⟨#[109, 117, 115, 116, 45, 114, 101, 118, 97, 108, 105, 100, 97, 116, 101]⟩ : ByteArray), (⟨#[112, 114, 111, 120, 121, 45, 114, 101, 118, 97, 108, 105, 100, 97, 116, 101]⟩ : ByteArray), (⟨#[111, 110, 108, 121, 45, 105, 102, 45, 99, 97, 99, 104, 101, 100]⟩ : ByteArray), (⟨#[110, 111, 45, 116, 114, 97, 110, 115, 102, 111, 114, 109]⟩ : ByteArray)] : List ByteArray) : List ByteArray)).bind fun y167 => (if 0 ≤ x0 then (if x0 < (y167.length : Int) then ((control_None.f).bind fun bt171 => (if x1 = true then ((greatB.f (rdOf ByteArray.empty y167 x0)).bind fun t182 => ((pantrylaw04_of.f k t182).bind fun bt183 => (if (bt183.1 == (x0 == 0) && (bt183.2.1 == (x0 == 1) && (bt183.2.2.1 == (x0 == 2) && (bt183.2.2.2.1 == (x0 == 3) && (bt183.2.2.2.2.1 == ((wrap64 (Int.tdiv x0 2)) == 2) && (bt183.2.2.2.2.2.1 == (x0 == 6) && (bt183.2.2.2.2.2.2.1 == (-1) && (bt183.2.2.2.2.2.2.2.1 == (-1) && (bt183.2.2.2.2.2.2.2.2.1 == (-1) && (bt183.2.2.2.2.2.2.2.2.2 == (-1))))))))))) = true then (if t182.size + 1 ≤ 9223372036854775807 then (if (t182 ++ (⟨#[61]⟩ : ByteArray)).size + x2.size ≤ 9223372036854775807 then ((pantrylaw04_of.f k ((t182 ++ (⟨#[61]⟩ : ByteArray)) ++ x2)).bind fun bt193 => (some (bt193.1 == (x0 == 0) && (bt193.2.1 == (x0 == 1) && (bt193.2.2.1 == (x0 == 2) && (bt193.2.2.2.1 == (x0 == 3) && (bt193.2.2.2.2.1 == ((wrap64 (Int.tdiv x0 2)) == 2) && (bt193.2.2.2.2.2.1 == (x0 == 6) && (bt193.2.2.2.2.2.2.1 == (-1) && (bt193.2.2.2.2.2.2.2.1 == (-1) && (bt193.2.2.2.2.2.2.2.2.1 == (-1) && (bt193.2.2.2.2.2.2.2.2.2 == (-1))))))))))))) else (none)) else (none)) else (none)))) else ((pantrylaw04_of.f k (rdOf ByteArray.empty y167 x0)).bind fun bt203 => (if (bt203.1 == (x0 == 0) && (bt203.2.1 == (x0 == 1) && (bt203.2.2.1 == (x0 == 2) && (bt203.2.2.2.1 == (x0 == 3) && (bt203.2.2.2.2.1 == ((wrap64 (Int.tdiv x0 2)) == 2) && (bt203.2.2.2.2.2.1 == (x0 == 6) && (bt203.2.2.2.2.2.2.1 == (-1) && (bt203.2.2.2.2.2.2.2.1 == (-1) && (bt203.2.2.2.2.2.2.2.2.1 == (-1) && (bt203.2.2.2.2.2.2.2.2.2 == (-1))))))))))) = true then (if (rdOf ByteArray.empty y167 x0).size + 1 ≤ 9223372036854775807 then (if ((rdOf ByteArray.empty y167 x0) ++ (⟨#[61]⟩ : ByteArray)).size + x2.size ≤ 9223372036854775807 then ((pantrylaw04_of.f k (((rdOf ByteArray.empty y167 x0) ++ (⟨#[61]⟩ : ByteArray)) ++ x2)).bind fun bt213 => (some (bt213.1 == (x0 == 0) && (bt213.2.1 == (x0 == 1) && (bt213.2.2.1 == (x0 == 2) && (bt213.2.2.2.1 == (x0 == 3) && (bt213.2.2.2.2.1 == ((wrap64 (Int.tdiv x0 2)) == 2) && (bt213.2.2.2.2.2.1 == (x0 == 6) && (bt213.2.2.2.2.2.2.1 == (-1) && (bt213.2.2.2.2.2.2.2.1 == (-1) && (bt213.2.2.2.2.2.2.2.2.1 == (-1) && (bt213.2.2.2.2.2.2.2.2.2 == (-1))))))))))))) else (none)) else (none)) else (none))))) else (none)) else (none)))
end
def pantrylaw04_ControlFlags.f (k : Nat) (a0 : Int) (a1 : Bool) (a2 : ByteArray) : Option (Bool) := (pantrylaw04_anchor.f k).bind fun t166 => (if t166 = true then (if a0 < 0 then (pantrylaw04_ControlFlags.j0 k a0 a1 a2 true) else (if a0 > 7 then (pantrylaw04_ControlFlags.j0 k a0 a1 a2 true) else (pantrylaw04_ControlFlags.j0 k a0 a1 a2 (decide ((a2.size : Int) > 50))))) else (none))
theorem pantrylaw04_ControlFlags.mono_l : ∀ k, (∀ y0 y1 y2 y3, LeO (pantrylaw04_ControlFlags.j0 k y0 y1 y2 y3) (pantrylaw04_ControlFlags.j0 (k + 1) y0 y1 y2 y3)) ∧ (∀ y0 y1 y2 y3 y4, LeO (pantrylaw04_ControlFlags.l0 k y0 y1 y2 y3 y4) (pantrylaw04_ControlFlags.l0 (k + 1) y0 y1 y2 y3 y4))
  | 0 => ⟨fun _ _ _ _ r h => by simp [pantrylaw04_ControlFlags.j0] at h, fun _ _ _ _ _ r h => by simp [pantrylaw04_ControlFlags.l0] at h⟩
  | k + 1 => by
    obtain ⟨ih0, ih1⟩ := pantrylaw04_ControlFlags.mono_l k
    refine ⟨?_, ?_⟩
    · intro y0 y1 y2 y3
      unfold pantrylaw04_ControlFlags.j0
      repeat' first
      | (with_reducible exact ih0 _ _ _ _)
      | (with_reducible exact ih1 _ _ _ _ _)
      | (with_reducible exact pantrylaw04_anchor.mono _)
      | (with_reducible exact pantrylaw04_of.mono _ _)
      | (with_reducible exact LeO.refl _)
      | (with_reducible exact LeO.none _)
      | (with_reducible refine LeO.ite ?_ ?_)
      | (with_reducible refine LeO.bind ?_ (fun _ => ?_))
      | exact ih0 _ _ _ _
      | exact ih1 _ _ _ _ _
      | exact pantrylaw04_anchor.mono _
      | exact pantrylaw04_of.mono _ _
      | exact LeO.none _
      | refine LeO.ite ?_ ?_
      | refine LeO.bind ?_ (fun _ => ?_)
    · intro y0 y1 y2 y3 y4
      unfold pantrylaw04_ControlFlags.l0
      repeat' first
      | (with_reducible exact ih0 _ _ _ _)
      | (with_reducible exact ih1 _ _ _ _ _)
      | (with_reducible exact pantrylaw04_anchor.mono _)
      | (with_reducible exact pantrylaw04_of.mono _ _)
      | (with_reducible exact LeO.refl _)
      | (with_reducible exact LeO.none _)
      | (with_reducible refine LeO.ite ?_ ?_)
      | (with_reducible refine LeO.bind ?_ (fun _ => ?_))
      | exact ih0 _ _ _ _
      | exact ih1 _ _ _ _ _
      | exact pantrylaw04_anchor.mono _
      | exact pantrylaw04_of.mono _ _
      | exact LeO.none _
      | refine LeO.ite ?_ ?_
      | refine LeO.bind ?_ (fun _ => ?_)
theorem pantrylaw04_ControlFlags.mono : ∀ a0 a1 a2 k, LeO (pantrylaw04_ControlFlags.f k a0 a1 a2) (pantrylaw04_ControlFlags.f (k + 1) a0 a1 a2) := by
  intro a0 a1 a2 k
  obtain ⟨ih0, ih1⟩ := pantrylaw04_ControlFlags.mono_l k
  unfold pantrylaw04_ControlFlags.f
  repeat' first
      | (with_reducible exact ih0 _ _ _ _)
      | (with_reducible exact ih1 _ _ _ _ _)
      | (with_reducible exact pantrylaw04_anchor.mono _)
      | (with_reducible exact pantrylaw04_of.mono _ _)
      | (with_reducible exact LeO.refl _)
      | (with_reducible exact LeO.none _)
      | (with_reducible refine LeO.ite ?_ ?_)
      | (with_reducible refine LeO.bind ?_ (fun _ => ?_))
      | exact ih0 _ _ _ _
      | exact ih1 _ _ _ _ _
      | exact pantrylaw04_anchor.mono _
      | exact pantrylaw04_of.mono _ _
      | exact LeO.none _
      | refine LeO.ite ?_ ?_
      | refine LeO.bind ?_ (fun _ => ?_)
def pantrylaw04_ControlFlags.T23 : Bool × List (List Nat × List Nat) := (true, [([], []), ([0], [0]), ([], []), ([1, 2], [1, 2]), ([3, 1], [3]), ([4], [4]), ([5, 4], [4, 5]), ([4], [4]), ([6, 7, 4], [4, 6, 7]), ([8, 4, 4], [4, 8]), ([4], [4]), ([9, 10, 4], [4, 9, 10]), ([4, 11], [4, 11]), ([12, 9, 0, 1, 2, 3, 4, 5, 6, 7, 8, 9, 10, 11, 12], [12])])
def pantrylaw04_ControlFlags.B23 : List Nat := [0, 1, 0, 7, 15, 31, 63, 31, 255, 511, 31, 2047, 4095, 8191]
theorem pantrylaw04_ControlFlags.tab23 : rtab .any (opsOf Tryd.f6 23) = pantrylaw04_ControlFlags.T23 := by kernel_rfl
theorem pantrylaw04_ControlFlags.bits23 : waitsOk pantrylaw04_ControlFlags.T23.2 pantrylaw04_ControlFlags.B23 = true := by kernel_rfl
set_option maxHeartbeats 8000000 in
set_option maxRecDepth 100000 in
theorem pantrylaw04_ControlFlags.calls (k : Nat) (a0 : Int) (a1 : Bool) (a2 : ByteArray) (r : Bool) (w : World) (h : pantrylaw04_ControlFlags.f k a0 a1 a2 = some r) :
    Calls Tryd.prog 6 #[.int .i64 a0, .bool a1, .string a2] w fun e w' => e = .returned (.bool r) ∧ Below w.heap.size w w' := by
  have hu29 := Tryd.underlying29
  have HB := Aside0.mk (Below.refl w.heap.size w)
  have H : ((pantrylaw04_anchor.f k).bind fun t166 => (if t166 = true then (if a0 < 0 then (pantrylaw04_ControlFlags.j0 k a0 a1 a2 true) else (if a0 > 7 then (pantrylaw04_ControlFlags.j0 k a0 a1 a2 true) else (pantrylaw04_ControlFlags.j0 k a0 a1 a2 (decide ((a2.size : Int) > 50))))) else (none))) = some r := h
  clear h
  replace H := Option.bind_eq_some_iff.mp H
  obtain ⟨t166, A40, H⟩ := H
  replace H : (if t166 = true then (if a0 < 0 then (pantrylaw04_ControlFlags.j0 k a0 a1 a2 true) else (if a0 > 7 then (pantrylaw04_ControlFlags.j0 k a0 a1 a2 true) else (pantrylaw04_ControlFlags.j0 k a0 a1 a2 (decide ((a2.size : Int) > 50))))) else (none)) = some r := H
  have A4 := Aside0.mk A40
  clear A40
  by_cases c5 : t166 = true
  · subst c5
    have H1 : (if a0 < 0 then (pantrylaw04_ControlFlags.j0 k a0 a1 a2 true) else (if a0 > 7 then (pantrylaw04_ControlFlags.j0 k a0 a1 a2 true) else (pantrylaw04_ControlFlags.j0 k a0 a1 a2 (decide ((a2.size : Int) > 50))))) = some r := by rw [if_pos rfl] at H; exact H
    clear H
    have H := H1
    clear H1
    have HC6 := Aside0.mk H
    clear H
    go_enter Tryd.func6, Tryd.ntmps6
    go_upto_region 3 with (first | ((with_reducible refine gate_callee (f := 9) rfl ?_); refine goesL_ (some 13) rfl rfl Tryd.func9 (by kernel_rfl) rfl #[] rfl (by (try simp only [List.map_toArray, List.map_cons, List.map_nil]); first | done | rfl | (simp only [List.length_drop, List.length_take]; rfl)) ?_; (with_reducible refine (pantrylaw04_anchor.calls k  true _ A4.out).mono ?_); rintro e w7 ⟨rfl, hb⟩; refine ⟨_, rfl, ?_⟩; have n0_ := Aside0.mk (below_step (by repeat (first | (with_reducible first | exact HB.out | apply below_alloc | apply pw_below_drewN | apply below_drew1) | exact HB.out)) hb); clear HB; have HB := n0_; clear n0_; (try clear hb); (try clear hb2); (try clear hk); (try clear hi)))
    (try simp only [Act.put, List.setIfInBounds_toArray, List.set_cons_zero, List.set_cons_succ])
    go_cut [25] (fun v25 wc => ∃ (kq : Nat) (x25_5 : Bool), v25 = .bool x25_5 ∧ Aside0 (pantrylaw04_ControlFlags.j0 kq a0 a1 a2 x25_5 = some r) ∧ Aside0 (kq ≤ k) ∧ Aside0 (Below w.heap.size w wc))
    case first =>
      have H := HC6.out
      clear HC6
      by_cases c8 : a0 < 0
      · rw [if_pos c8] at H
        have c8b0 : decide (a0 < 0) = true := decide_eq_true c8
        clear c8
        (first | rw [c8b0] | (simp only [i64_w, i32_w]; rw [c8b0]) | skip)
        have H' := Aside0.mk H
        clear H
        go_wp2
        go_meet
        case rel => exact ⟨_, (true), (by first | rfl | (simp; done) | (simp [*]; done)), H', ⟨by first | omega | exact Nat.le_refl _⟩, ⟨by repeat (first | (with_reducible first | exact HB.out | apply below_alloc | apply pw_below_drewN | apply below_drew1) | exact HB.out)⟩⟩
      · rw [if_neg c8] at H
        have c8b0 : decide (a0 < 0) = false := decide_eq_false c8
        clear c8
        (first | rw [c8b0] | (simp only [i64_w, i32_w]; rw [c8b0]) | skip)
        by_cases c9 : a0 > 7
        · rw [if_pos c9] at H
          have c9b0 : decide (7 < a0) = true := decide_eq_true c9
          clear c9
          have H' := Aside0.mk H
          clear H
          go_wp2
          go_meet
          case rel => exact ⟨_, (true), (by first | rfl | (simp; done) | (simp [*]; done)), H', ⟨by first | omega | exact Nat.le_refl _⟩, ⟨by repeat (first | (with_reducible first | exact HB.out | apply below_alloc | apply pw_below_drewN | apply below_drew1) | exact HB.out)⟩⟩
        · rw [if_neg c9] at H
          have c9b0 : decide (7 < a0) = false := decide_eq_false c9
          clear c9
          have H' := Aside0.mk H
          clear H
          go_wp2
          go_meet
          case rel => exact ⟨_, (decide ((a2.size : Int) > 50)), (by first | rfl | (simp; done) | (simp [*]; done)), H', ⟨by first | omega | exact Nat.le_refl _⟩, ⟨by repeat (first | (with_reducible first | exact HB.out | apply below_alloc | apply pw_below_drewN | apply below_drew1) | exact HB.out)⟩⟩
    case rest =>
      clear HC6
      try clear p2
      try clear c5
      try clear c6
      try clear c8
      try clear c8b0
      try clear c9
      try clear c9b0
      obtain ⟨kq, x25_5, rfl, HA, HJ5, HB⟩ := hcut
      cases kq with
      | zero => exact absurd HA.out (by simp [pantrylaw04_ControlFlags.j0])
      | succ kj5 =>
        have H := HA.out
        clear HA
        simp only [pantrylaw04_ControlFlags.j0] at H
        by_cases c10 : x25_5 = true
        · subst c10
          have H1 : (some true) = some r := by rw [if_pos rfl] at H; exact H
          clear H
          have H := H1
          clear H1
          obtain rfl := Option.some.inj H
          go_wp2
          go_ret
          exact ⟨by first | rfl | (generalize ByteArray.toList _ = l_; cases l_ <;> rfl) | (simp [errW_none, errW_some] <;> rfl) | (simp [*, errW_none, errW_some] <;> rfl), by repeat (first | (with_reducible first | exact HB.out | apply below_alloc | apply pw_below_drewN | apply below_drew1) | exact HB.out)⟩
        · replace c10 := Bool.eq_false_iff.mpr c10
          subst c10
          have H1 : (pantrylaw04_ControlFlags.l0 kj5 a0 a1 a2 (a2.size : Int) 0) = some r := by rw [if_neg (show ¬ (false = true) by decide)] at H; exact H
          clear H
          have H := H1
          clear H1
          have H' := Aside0.mk H
          clear H
          go_wp2
          go_loopg [28] kj5 (fun kq v28 w' => ∃ (x28_2 : Int), v28 = .int .i64 x28_2 ∧ Aside0 (pantrylaw04_ControlFlags.l0 kq a0 a1 a2 (a2.size : Int) x28_2 = some r) ∧ Aside0 (kq ≤ kj5) ∧ Aside0 (Below w.heap.size w w'))
          case atStart => exact ⟨(0), (by first | rfl | (simp; done) | (simp [*]; done)), H', ⟨Nat.le_refl _⟩, ⟨by repeat (first | (with_reducible first | exact HB.out | apply below_alloc | apply pw_below_drewN | apply below_drew1) | exact HB.out)⟩⟩
          case round =>
            clear H'
            try clear c1
            try clear p2
            try clear c5
            try clear c6
            try clear c8
            try clear c8b0
            try clear c9
            try clear c9b0
            try clear c10
            try clear p2
            obtain ⟨x28_2, rfl, HA, HK2, HB⟩ := hrel
            cases gk with
            | zero => exact absurd HA.out (by simp [pantrylaw04_ControlFlags.l0])
            | succ k2 =>
              have H := HA.out
              clear HA
              simp only [pantrylaw04_ControlFlags.l0] at H
              by_cases c11 : x28_2 < (a2.size : Int)
              · rw [if_pos c11] at H
                have c11b0 : decide (x28_2 < (a2.size : Int)) = true := decide_eq_true c11
                clear c11
                by_cases c12 : 0 ≤ x28_2
                · rw [if_pos c12] at H
                  have c12b0 : decide (0 ≤ x28_2) = true := decide_eq_true c12
                  clear c12
                  by_cases c13 : x28_2 < (a2.size : Int)
                  · rw [if_pos c13] at H
                    have c13b0 : decide (x28_2 < (a2.size : Int)) = true := decide_eq_true c13
                    clear c13
                    by_cases c15 : (bt a2 x28_2) = 44
                    · rw [if_pos c15] at H
                      have c15b0 : ((bt a2 x28_2) == 44) = true := beq_iff_eq.mpr c15
                      have c15b1 : ((bt a2 x28_2) != 44) = false := bne_eq_false_iff_eq.mpr c15
                      clear c15
                      obtain rfl := Option.some.inj H
                      have p14 : 0 ≤ (x28_2 : Int) := of_decide_eq_true (by first | (with_reducible assumption) | assumption)
                      have q14 : x28_2 < (a2.size : Int) := of_decide_eq_true (by first | (with_reducible assumption) | assumption)
                      have hx14 := bt_at a2 x28_2
                      replace p14 := eq_true p14
                      replace q14 := eq_true q14
                      go_wp2
                      go_ret
                      exact ⟨by first | rfl | (generalize ByteArray.toList _ = l_; cases l_ <;> rfl) | (simp [errW_none, errW_some] <;> rfl) | (simp [*, errW_none, errW_some] <;> rfl), by repeat (first | (with_reducible first | exact HB.out | apply below_alloc | apply pw_below_drewN | apply below_drew1) | exact HB.out)⟩
                    · rw [if_neg c15] at H
                      have c15b0 : ((bt a2 x28_2) == 44) = false := beq_eq_false_iff_ne.mpr c15
                      have c15b1 : ((bt a2 x28_2) != 44) = true := bne_iff_ne.mpr c15
                      by_cases c17 : (bt a2 x28_2) = 34
                      · rw [if_pos c17] at H
                        have c17b0 : ((bt a2 x28_2) == 34) = true := beq_iff_eq.mpr c17
                        have c17b1 : ((bt a2 x28_2) != 34) = false := bne_eq_false_iff_eq.mpr c17
                        clear c17
                        obtain rfl := Option.some.inj H
                        have p14 : 0 ≤ (x28_2 : Int) := of_decide_eq_true (by first | (with_reducible assumption) | assumption)
                        have q14 : x28_2 < (a2.size : Int) := of_decide_eq_true (by first | (with_reducible assumption) | assumption)
                        have hx14 := bt_at a2 x28_2
                        replace p14 := eq_true p14
                        replace q14 := eq_true q14
                        have p16 : 0 ≤ (x28_2 : Int) := of_decide_eq_true (by first | (with_reducible assumption) | assumption)
                        have q16 : x28_2 < (a2.size : Int) := of_decide_eq_true (by first | (with_reducible assumption) | assumption)
                        have hx16 := bt_at a2 x28_2
                        replace p16 := eq_true p16
                        replace q16 := eq_true q16
                        go_wp2
                        go_ret
                        exact ⟨by first | rfl | (generalize ByteArray.toList _ = l_; cases l_ <;> rfl) | (simp [errW_none, errW_some] <;> rfl) | (simp [*, errW_none, errW_some] <;> rfl), by repeat (first | (with_reducible first | exact HB.out | apply below_alloc | apply pw_below_drewN | apply below_drew1) | exact HB.out)⟩
                      · rw [if_neg c17] at H
                        have c17b0 : ((bt a2 x28_2) == 34) = false := beq_eq_false_iff_ne.mpr c17
                        have c17b1 : ((bt a2 x28_2) != 34) = true := bne_iff_ne.mpr c17
                        have H' := Aside0.mk H
                        clear H
                        have p14 : 0 ≤ (x28_2 : Int) := of_decide_eq_true (by first | (with_reducible assumption) | assumption)
                        have q14 : x28_2 < (a2.size : Int) := of_decide_eq_true (by first | (with_reducible assumption) | assumption)
                        have hx14 := bt_at a2 x28_2
                        replace p14 := eq_true p14
                        replace q14 := eq_true q14
                        have p16 : 0 ≤ (x28_2 : Int) := of_decide_eq_true (by first | (with_reducible assumption) | assumption)
                        have q16 : x28_2 < (a2.size : Int) := of_decide_eq_true (by first | (with_reducible assumption) | assumption)
                        have hx16 := bt_at a2 x28_2
                        replace p16 := eq_true p16
                        replace q16 := eq_true q16
                        go_wp2
                        go_roundg k2
                        case measure => have := HJ5.out; have := HK2.out; omega
                        case rel => exact ⟨(wrap64 (x28_2 + 1)), (by first | rfl | (simp; done) | (simp [*]; done)), H', ⟨by have := HJ5.out; have := HK2.out; omega⟩, ⟨by repeat (first | (with_reducible first | exact HB.out | apply below_alloc | apply pw_below_drewN | apply below_drew1) | exact HB.out)⟩⟩
                  · rw [if_neg c13] at H
                    exact absurd H (by simp)
                · rw [if_neg c12] at H
                  exact absurd H (by simp)
              · rw [if_neg c11] at H
                have c11b0 : decide (x28_2 < (a2.size : Int)) = false := decide_eq_false c11
                clear c11
                obtain ⟨y167, hy167⟩ : ∃ y_ : List ByteArray, y_ = (([(⟨#[110, 111, 45, 115, 116, 111, 114, 101]⟩ : ByteArray), (⟨#[110, 111, 45, 99, 97, 99, 104, 101]⟩ : ByteArray), (⟨#[112, 114, 105, 118, 97, 116, 101]⟩ : ByteArray), (⟨#[112, 117, 98, 108, 105, 99]⟩ : ByteArray), (⟨#[109, 117, 115, 116, 45, 114, 101, 118, 97, 108, 105, 100, 97, 116, 101]⟩ : ByteArray), (⟨#[112, 114, 111, 120, 121, 45, 114, 101, 118, 97, 108, 105, 100, 97, 116, 101]⟩ : ByteArray), (⟨#[111, 110, 108, 121, 45, 105, 102, 45, 99, 97, 99, 104, 101, 100]⟩ : ByteArray), (⟨#[110, 111, 45, 116, 114, 97, 110, 115, 102, 111, 114, 109]⟩ : ByteArray)] : List ByteArray)) := ⟨_, rfl⟩
                replace H : (if 0 ≤ a0 then (if a0 < (y167.length : Int) then ((control_None.f).bind fun bt171 => (if a1 = true then ((greatB.f (rdOf ByteArray.empty y167 a0)).bind fun t182 => ((pantrylaw04_of.f k2 t182).bind fun bt183 => (if (bt183.1 == (a0 == 0) && (bt183.2.1 == (a0 == 1) && (bt183.2.2.1 == (a0 == 2) && (bt183.2.2.2.1 == (a0 == 3) && (bt183.2.2.2.2.1 == ((wrap64 (Int.tdiv a0 2)) == 2) && (bt183.2.2.2.2.2.1 == (a0 == 6) && (bt183.2.2.2.2.2.2.1 == (-1) && (bt183.2.2.2.2.2.2.2.1 == (-1) && (bt183.2.2.2.2.2.2.2.2.1 == (-1) && (bt183.2.2.2.2.2.2.2.2.2 == (-1))))))))))) = true then (if t182.size + 1 ≤ 9223372036854775807 then (if (t182 ++ (⟨#[61]⟩ : ByteArray)).size + a2.size ≤ 9223372036854775807 then ((pantrylaw04_of.f k2 ((t182 ++ (⟨#[61]⟩ : ByteArray)) ++ a2)).bind fun bt193 => (some (bt193.1 == (a0 == 0) && (bt193.2.1 == (a0 == 1) && (bt193.2.2.1 == (a0 == 2) && (bt193.2.2.2.1 == (a0 == 3) && (bt193.2.2.2.2.1 == ((wrap64 (Int.tdiv a0 2)) == 2) && (bt193.2.2.2.2.2.1 == (a0 == 6) && (bt193.2.2.2.2.2.2.1 == (-1) && (bt193.2.2.2.2.2.2.2.1 == (-1) && (bt193.2.2.2.2.2.2.2.2.1 == (-1) && (bt193.2.2.2.2.2.2.2.2.2 == (-1))))))))))))) else (none)) else (none)) else (none)))) else ((pantrylaw04_of.f k2 (rdOf ByteArray.empty y167 a0)).bind fun bt203 => (if (bt203.1 == (a0 == 0) && (bt203.2.1 == (a0 == 1) && (bt203.2.2.1 == (a0 == 2) && (bt203.2.2.2.1 == (a0 == 3) && (bt203.2.2.2.2.1 == ((wrap64 (Int.tdiv a0 2)) == 2) && (bt203.2.2.2.2.2.1 == (a0 == 6) && (bt203.2.2.2.2.2.2.1 == (-1) && (bt203.2.2.2.2.2.2.2.1 == (-1) && (bt203.2.2.2.2.2.2.2.2.1 == (-1) && (bt203.2.2.2.2.2.2.2.2.2 == (-1))))))))))) = true then (if (rdOf ByteArray.empty y167 a0).size + 1 ≤ 9223372036854775807 then (if ((rdOf ByteArray.empty y167 a0) ++ (⟨#[61]⟩ : ByteArray)).size + a2.size ≤ 9223372036854775807 then ((pantrylaw04_of.f k2 (((rdOf ByteArray.empty y167 a0) ++ (⟨#[61]⟩ : ByteArray)) ++ a2)).bind fun bt213 => (some (bt213.1 == (a0 == 0) && (bt213.2.1 == (a0 == 1) && (bt213.2.2.1 == (a0 == 2) && (bt213.2.2.2.1 == (a0 == 3) && (bt213.2.2.2.2.1 == ((wrap64 (Int.tdiv a0 2)) == 2) && (bt213.2.2.2.2.2.1 == (a0 == 6) && (bt213.2.2.2.2.2.2.1 == (-1) && (bt213.2.2.2.2.2.2.2.1 == (-1) && (bt213.2.2.2.2.2.2.2.2.1 == (-1) && (bt213.2.2.2.2.2.2.2.2.2 == (-1))))))))))))) else (none)) else (none)) else (none))))) else (none)) else (none)) = some r := by first | (rw [hy167]; with_reducible exact H) | (have H2_ := (Option.bind_some _ _).symm.trans H; rw [hy167]; with_reducible exact H2_) | (have H2_ := (Option.bind_some _ _).symm.trans H; with_reducible exact H2_) | with_reducible exact H | (rw [hy167]; exact H) | exact H
                have Ny167 := Aside0.mk hy167
                clear hy167
                by_cases c18 : 0 ≤ a0
                · rw [if_pos c18] at H
                  have c18b0 : decide (0 ≤ a0) = true := decide_eq_true c18
                  clear c18
                  by_cases c19 : a0 < (y167.length : Int)
                  · rw [if_pos c19] at H
                    have c19b0 : decide (a0 < (y167.length : Int)) = true := decide_eq_true c19
                    clear c19
                    replace H := Option.bind_eq_some_iff.mp H
                    obtain ⟨⟨t171, t172, t173, t174, t175, t176, t177, t178, t179, t180⟩, A200, H⟩ := H
                    replace H : (if a1 = true then ((greatB.f (rdOf ByteArray.empty y167 a0)).bind fun t182 => ((pantrylaw04_of.f k2 t182).bind fun bt183 => (if (bt183.1 == (a0 == 0) && (bt183.2.1 == (a0 == 1) && (bt183.2.2.1 == (a0 == 2) && (bt183.2.2.2.1 == (a0 == 3) && (bt183.2.2.2.2.1 == ((wrap64 (Int.tdiv a0 2)) == 2) && (bt183.2.2.2.2.2.1 == (a0 == 6) && (bt183.2.2.2.2.2.2.1 == (-1) && (bt183.2.2.2.2.2.2.2.1 == (-1) && (bt183.2.2.2.2.2.2.2.2.1 == (-1) && (bt183.2.2.2.2.2.2.2.2.2 == (-1))))))))))) = true then (if t182.size + 1 ≤ 9223372036854775807 then (if (t182 ++ (⟨#[61]⟩ : ByteArray)).size + a2.size ≤ 9223372036854775807 then ((pantrylaw04_of.f k2 ((t182 ++ (⟨#[61]⟩ : ByteArray)) ++ a2)).bind fun bt193 => (some (bt193.1 == (a0 == 0) && (bt193.2.1 == (a0 == 1) && (bt193.2.2.1 == (a0 == 2) && (bt193.2.2.2.1 == (a0 == 3) && (bt193.2.2.2.2.1 == ((wrap64 (Int.tdiv a0 2)) == 2) && (bt193.2.2.2.2.2.1 == (a0 == 6) && (bt193.2.2.2.2.2.2.1 == (-1) && (bt193.2.2.2.2.2.2.2.1 == (-1) && (bt193.2.2.2.2.2.2.2.2.1 == (-1) && (bt193.2.2.2.2.2.2.2.2.2 == (-1))))))))))))) else (none)) else (none)) else (none)))) else ((pantrylaw04_of.f k2 (rdOf ByteArray.empty y167 a0)).bind fun bt203 => (if (bt203.1 == (a0 == 0) && (bt203.2.1 == (a0 == 1) && (bt203.2.2.1 == (a0 == 2) && (bt203.2.2.2.1 == (a0 == 3) && (bt203.2.2.2.2.1 == ((wrap64 (Int.tdiv a0 2)) == 2) && (bt203.2.2.2.2.2.1 == (a0 == 6) && (bt203.2.2.2.2.2.2.1 == (-1) && (bt203.2.2.2.2.2.2.2.1 == (-1) && (bt203.2.2.2.2.2.2.2.2.1 == (-1) && (bt203.2.2.2.2.2.2.2.2.2 == (-1))))))))))) = true then (if (rdOf ByteArray.empty y167 a0).size + 1 ≤ 9223372036854775807 then (if ((rdOf ByteArray.empty y167 a0) ++ (⟨#[61]⟩ : ByteArray)).size + a2.size ≤ 9223372036854775807 then ((pantrylaw04_of.f k2 (((rdOf ByteArray.empty y167 a0) ++ (⟨#[61]⟩ : ByteArray)) ++ a2)).bind fun bt213 => (some (bt213.1 == (a0 == 0) && (bt213.2.1 == (a0 == 1) && (bt213.2.2.1 == (a0 == 2) && (bt213.2.2.2.1 == (a0 == 3) && (bt213.2.2.2.2.1 == ((wrap64 (Int.tdiv a0 2)) == 2) && (bt213.2.2.2.2.2.1 == (a0 == 6) && (bt213.2.2.2.2.2.2.1 == (-1) && (bt213.2.2.2.2.2.2.2.1 == (-1) && (bt213.2.2.2.2.2.2.2.2.1 == (-1) && (bt213.2.2.2.2.2.2.2.2.2 == (-1))))))))))))) else (none)) else (none)) else (none)))) = some r := H
                    have A20 := Aside0.mk A200
                    clear A200
                    by_cases c21 : a1 = true
                    · subst c21
                      have H1 : ((greatB.f (rdOf ByteArray.empty y167 a0)).bind fun t182 => ((pantrylaw04_of.f k2 t182).bind fun bt183 => (if (bt183.1 == (a0 == 0) && (bt183.2.1 == (a0 == 1) && (bt183.2.2.1 == (a0 == 2) && (bt183.2.2.2.1 == (a0 == 3) && (bt183.2.2.2.2.1 == ((wrap64 (Int.tdiv a0 2)) == 2) && (bt183.2.2.2.2.2.1 == (a0 == 6) && (bt183.2.2.2.2.2.2.1 == (-1) && (bt183.2.2.2.2.2.2.2.1 == (-1) && (bt183.2.2.2.2.2.2.2.2.1 == (-1) && (bt183.2.2.2.2.2.2.2.2.2 == (-1))))))))))) = true then (if t182.size + 1 ≤ 9223372036854775807 then (if (t182 ++ (⟨#[61]⟩ : ByteArray)).size + a2.size ≤ 9223372036854775807 then ((pantrylaw04_of.f k2 ((t182 ++ (⟨#[61]⟩ : ByteArray)) ++ a2)).bind fun bt193 => (some (bt193.1 == (a0 == 0) && (bt193.2.1 == (a0 == 1) && (bt193.2.2.1 == (a0 == 2) && (bt193.2.2.2.1 == (a0 == 3) && (bt193.2.2.2.2.1 == ((wrap64 (Int.tdiv a0 2)) == 2) && (bt193.2.2.2.2.2.1 == (a0 == 6) && (bt193.2.2.2.2.2.2.1 == (-1) && (bt193.2.2.2.2.2.2.2.1 == (-1) && (bt193.2.2.2.2.2.2.2.2.1 == (-1) && (bt193.2.2.2.2.2.2.2.2.2 == (-1))))))))))))) else (none)) else (none)) else (none)))) = some r := by rw [if_pos rfl] at H; exact H
                      clear H
                      have H := H1
                      clear H1
                      replace H := Option.bind_eq_some_iff.mp H
                      obtain ⟨t182, A220, H⟩ := H
                      replace H : ((pantrylaw04_of.f k2 t182).bind fun bt183 => (if (bt183.1 == (a0 == 0) && (bt183.2.1 == (a0 == 1) && (bt183.2.2.1 == (a0 == 2) && (bt183.2.2.2.1 == (a0 == 3) && (bt183.2.2.2.2.1 == ((wrap64 (Int.tdiv a0 2)) == 2) && (bt183.2.2.2.2.2.1 == (a0 == 6) && (bt183.2.2.2.2.2.2.1 == (-1) && (bt183.2.2.2.2.2.2.2.1 == (-1) && (bt183.2.2.2.2.2.2.2.2.1 == (-1) && (bt183.2.2.2.2.2.2.2.2.2 == (-1))))))))))) = true then (if t182.size + 1 ≤ 9223372036854775807 then (if (t182 ++ (⟨#[61]⟩ : ByteArray)).size + a2.size ≤ 9223372036854775807 then ((pantrylaw04_of.f k2 ((t182 ++ (⟨#[61]⟩ : ByteArray)) ++ a2)).bind fun bt193 => (some (bt193.1 == (a0 == 0) && (bt193.2.1 == (a0 == 1) && (bt193.2.2.1 == (a0 == 2) && (bt193.2.2.2.1 == (a0 == 3) && (bt193.2.2.2.2.1 == ((wrap64 (Int.tdiv a0 2)) == 2) && (bt193.2.2.2.2.2.1 == (a0 == 6) && (bt193.2.2.2.2.2.2.1 == (-1) && (bt193.2.2.2.2.2.2.2.1 == (-1) && (bt193.2.2.2.2.2.2.2.2.1 == (-1) && (bt193.2.2.2.2.2.2.2.2.2 == (-1))))))))))))) else (none)) else (none)) else (none))) = some r := H
                      have A22 := Aside0.mk A220
                      clear A220
                      replace H := Option.bind_eq_some_iff.mp H
                      obtain ⟨⟨t183, t184, t185, t186, t187, t188, t189, t190, t191, t192⟩, A230, H⟩ := H
                      replace H : (if (t183 == (a0 == 0) && (t184 == (a0 == 1) && (t185 == (a0 == 2) && (t186 == (a0 == 3) && (t187 == ((wrap64 (Int.tdiv a0 2)) == 2) && (t188 == (a0 == 6) && (t189 == (-1) && (t190 == (-1) && (t191 == (-1) && (t192 == (-1))))))))))) = true then (if t182.size + 1 ≤ 9223372036854775807 then (if (t182 ++ (⟨#[61]⟩ : ByteArray)).size + a2.size ≤ 9223372036854775807 then ((pantrylaw04_of.f k2 ((t182 ++ (⟨#[61]⟩ : ByteArray)) ++ a2)).bind fun bt193 => (some (bt193.1 == (a0 == 0) && (bt193.2.1 == (a0 == 1) && (bt193.2.2.1 == (a0 == 2) && (bt193.2.2.2.1 == (a0 == 3) && (bt193.2.2.2.2.1 == ((wrap64 (Int.tdiv a0 2)) == 2) && (bt193.2.2.2.2.2.1 == (a0 == 6) && (bt193.2.2.2.2.2.2.1 == (-1) && (bt193.2.2.2.2.2.2.2.1 == (-1) && (bt193.2.2.2.2.2.2.2.2.1 == (-1) && (bt193.2.2.2.2.2.2.2.2.2 == (-1))))))))))))) else (none)) else (none)) else (none)) = some r := H
                      have A23 := Aside0.mk A230
                      clear A230
                      by_cases c24 : (t183 == (a0 == 0) && (t184 == (a0 == 1) && (t185 == (a0 == 2) && (t186 == (a0 == 3) && (t187 == ((wrap64 (Int.tdiv a0 2)) == 2) && (t188 == (a0 == 6) && (t189 == (-1) && (t190 == (-1) && (t191 == (-1) && (t192 == (-1))))))))))) = true
                      · rw [if_pos c24] at H
                        have c24b0 : (t183 == (a0 == 0) && (t184 == (a0 == 1) && (t185 == (a0 == 2) && (t186 == (a0 == 3) && (t187 == ((wrap64 (Int.tdiv a0 2)) == 2) && (t188 == (a0 == 6) && (t189 == (-1) && (t190 == (-1) && (t191 == (-1) && (t192 == (-1))))))))))) = true := c24
                        (try (have c24b1 : decide (t183 = (a0 == 0) && (t184 == (a0 == 1) && (t185 == (a0 == 2) && (t186 == (a0 == 3) && (t187 == ((wrap64 (Int.tdiv a0 2)) == 2) && (t188 == (a0 == 6) && (t189 == (-1) && (t190 == (-1) && (t191 == (-1) && (t192 == (-1))))))))))) = true := by simpa using c24))
                        (try (have c24b2 : (t183 == (a0 == 0) && (t184 == (a0 == 1) && (t185 == (a0 == 2) && (t186 == (a0 == 3) && (t187 == ((wrap64 (Int.tdiv a0 2)) == 2) && (t188 == (a0 == 6) && (t189 == (-1) && (t190 == (-1) && (t191 == (-1) && (t192 == (-1))))))))))) = true := by simpa using c24))
                        clear c24
                        by_cases c25 : t182.size + 1 ≤ 9223372036854775807
                        · rw [if_pos c25] at H
                          have c25b0 := eq_true c25
                          have c25b1 : decide (t182.size + 1 ≤ 9223372036854775807) = true := decide_eq_true c25
                          try have c25b2 : (9223372036854775807 < t182.size + 1) = False := eq_false (Nat.not_lt.2 c25)
                          by_cases c26 : (t182 ++ (⟨#[61]⟩ : ByteArray)).size + a2.size ≤ 9223372036854775807
                          · rw [if_pos c26] at H
                            have c26b0 := eq_true c26
                            have c26b1 : decide ((t182 ++ (⟨#[61]⟩ : ByteArray)).size + a2.size ≤ 9223372036854775807) = true := decide_eq_true c26
                            try have c26b2 : (9223372036854775807 < (t182 ++ (⟨#[61]⟩ : ByteArray)).size + a2.size) = False := eq_false (Nat.not_lt.2 c26)
                            try have c26b3 : (9223372036854775807 < (t182).size + 1 + a2.size) = False := by have h_ := c26; (simp only [ByteArray.size_append] at h_); exact eq_false (Nat.not_lt.2 h_)
                            replace H := Option.bind_eq_some_iff.mp H
                            obtain ⟨⟨t193, t194, t195, t196, t197, t198, t199, t200, t201, t202⟩, A270, H⟩ := H
                            replace H : (some (t193 == (a0 == 0) && (t194 == (a0 == 1) && (t195 == (a0 == 2) && (t196 == (a0 == 3) && (t197 == ((wrap64 (Int.tdiv a0 2)) == 2) && (t198 == (a0 == 6) && (t199 == (-1) && (t200 == (-1) && (t201 == (-1) && (t202 == (-1)))))))))))) = some r := H
                            have A27 := Aside0.mk A270
                            clear A270
                            obtain rfl := Option.some.inj H
                            go_wp2_with (first | ((with_reducible refine gate_dst (N := 42) rfl ?_); (try (refine gate_guard (by rfl) ?_; dsimp only)); refine Kd.R_lit Kd.string _ 9 ?hg (N := 42) ?hd (xs := ([(⟨#[110, 111, 45, 115, 116, 111, 114, 101]⟩ : ByteArray), (⟨#[110, 111, 45, 99, 97, 99, 104, 101]⟩ : ByteArray), (⟨#[112, 114, 105, 118, 97, 116, 101]⟩ : ByteArray), (⟨#[112, 117, 98, 108, 105, 99]⟩ : ByteArray), (⟨#[109, 117, 115, 116, 45, 114, 101, 118, 97, 108, 105, 100, 97, 116, 101]⟩ : ByteArray), (⟨#[112, 114, 111, 120, 121, 45, 114, 101, 118, 97, 108, 105, 100, 97, 116, 101]⟩ : ByteArray), (⟨#[111, 110, 108, 121, 45, 105, 102, 45, 99, 97, 99, 104, 101, 100]⟩ : ByteArray), (⟨#[110, 111, 45, 116, 114, 97, 110, 115, 102, 111, 114, 109]⟩ : ByteArray)] : List ByteArray)) (inner := [.string (⟨#[110, 111, 45, 115, 116, 111, 114, 101]⟩ : ByteArray), .string (⟨#[110, 111, 45, 99, 97, 99, 104, 101]⟩ : ByteArray), .string (⟨#[112, 114, 105, 118, 97, 116, 101]⟩ : ByteArray), .string (⟨#[112, 117, 98, 108, 105, 99]⟩ : ByteArray), .string (⟨#[109, 117, 115, 116, 45, 114, 101, 118, 97, 108, 105, 100, 97, 116, 101]⟩ : ByteArray), .string (⟨#[112, 114, 111, 120, 121, 45, 114, 101, 118, 97, 108, 105, 100, 97, 116, 101]⟩ : ByteArray), .string (⟨#[111, 110, 108, 121, 45, 105, 102, 45, 99, 97, 99, 104, 101, 100]⟩ : ByteArray), .string (⟨#[110, 111, 45, 116, 114, 97, 110, 115, 102, 111, 114, 109]⟩ : ByteArray)]) (ok := fun _ => True) (okp := fun _ => True) ?hr ?hp (fun _ hk => hk) trivial (Below.refl _ _) (Nat.le_refl _) (by simp) ?_; (case hd => rfl); (case hg => rfl); (case hr => first | (go_simp; done) | (go_simp; rfl)); (case hp => exact (Reps.one (show Kd.M Kd.string _ _ _ (⟨#[110, 111, 45, 115, 116, 111, 114, 101]⟩ : ByteArray) [.string (⟨#[110, 111, 45, 115, 116, 111, 114, 101]⟩ : ByteArray)] from rfl) (Reps.one (show Kd.M Kd.string _ _ _ (⟨#[110, 111, 45, 99, 97, 99, 104, 101]⟩ : ByteArray) [.string (⟨#[110, 111, 45, 99, 97, 99, 104, 101]⟩ : ByteArray)] from rfl) (Reps.one (show Kd.M Kd.string _ _ _ (⟨#[112, 114, 105, 118, 97, 116, 101]⟩ : ByteArray) [.string (⟨#[112, 114, 105, 118, 97, 116, 101]⟩ : ByteArray)] from rfl) (Reps.one (show Kd.M Kd.string _ _ _ (⟨#[112, 117, 98, 108, 105, 99]⟩ : ByteArray) [.string (⟨#[112, 117, 98, 108, 105, 99]⟩ : ByteArray)] from rfl) (Reps.one (show Kd.M Kd.string _ _ _ (⟨#[109, 117, 115, 116, 45, 114, 101, 118, 97, 108, 105, 100, 97, 116, 101]⟩ : ByteArray) [.string (⟨#[109, 117, 115, 116, 45, 114, 101, 118, 97, 108, 105, 100, 97, 116, 101]⟩ : ByteArray)] from rfl) (Reps.one (show Kd.M Kd.string _ _ _ (⟨#[112, 114, 111, 120, 121, 45, 114, 101, 118, 97, 108, 105, 100, 97, 116, 101]⟩ : ByteArray) [.string (⟨#[112, 114, 111, 120, 121, 45, 114, 101, 118, 97, 108, 105, 100, 97, 116, 101]⟩ : ByteArray)] from rfl) (Reps.one (show Kd.M Kd.string _ _ _ (⟨#[111, 110, 108, 121, 45, 105, 102, 45, 99, 97, 99, 104, 101, 100]⟩ : ByteArray) [.string (⟨#[111, 110, 108, 121, 45, 105, 102, 45, 99, 97, 99, 104, 101, 100]⟩ : ByteArray)] from rfl) (Reps.one (show Kd.M Kd.string _ _ _ (⟨#[110, 111, 45, 116, 114, 97, 110, 115, 102, 111, 114, 109]⟩ : ByteArray) [.string (⟨#[110, 111, 45, 116, 114, 97, 110, 115, 102, 111, 114, 109]⟩ : ByteArray)] from rfl) (Reps.none _ _)))))))))); intro v168 w28 ho29 hb hg_ hnew_; clear hg_ hnew_; (first | rw [← Ny167.out] at ho29 | (simp only [Int.reduceToNat] at ho29; rw [← Ny167.out] at ho29)); have n0_ := Aside0.mk (Kd.R_lower ho29 (below_size (by repeat (first | (with_reducible first | exact HB.out | apply below_alloc | apply pw_below_drewN | apply below_drew1) | exact HB.out)))); have n1_ := Aside0.mk (below_step (by repeat (first | (with_reducible first | exact HB.out | apply below_alloc | apply pw_below_drewN | apply below_drew1) | exact HB.out)) hb); clear HB; have HO169 := n0_; have HB := n1_; clear n0_ n1_; clear hb ho29; obtain ⟨Ao30, co30, eo30⟩ := Kd.R_slice HO169.out; subst eo30; have p170 : 0 ≤ (a0 : Int) := of_decide_eq_true (by first | (with_reducible assumption) | assumption); have q170 : a0 < (y167.length : Int) := of_decide_eq_true (by first | (with_reducible assumption) | assumption); obtain ⟨ad170, e170, hx170_0⟩ := Kd.at_string (Kd.R_reads' HO169.out).2.2 a0 p170 q170; cases e170; replace p170 := eq_true p170; replace q170 := eq_true q170) | ((with_reducible refine gate_callee (f := 19) rfl ?_); refine goesL_ (some 46) rfl rfl Tryd.func19 (by kernel_rfl) rfl #[] rfl (by (try simp only [List.map_toArray, List.map_cons, List.map_nil]); first | done | rfl | (simp only [List.length_drop, List.length_take]; rfl)) ?_; (with_reducible refine (control_None.calls  t171 t172 t173 t174 t175 t176 t177 t178 t179 t180 _ A20.out).mono ?_); rintro e w31 ⟨rfl, hb⟩; refine ⟨_, rfl, ?_⟩; have n0_ := Aside0.mk (Kd.R_below (by (with_reducible repeat (first | apply Kd.R_alloc | apply Kd.R_drewN | apply Kd.R_drew)); exact HO169.out) hb); have n1_ := Aside0.mk (below_step (by repeat (first | (with_reducible first | exact HB.out | apply below_alloc | apply pw_below_drewN | apply below_drew1) | exact HB.out)) hb); clear HO169; clear HB; have HO169 := n0_; have HB := n1_; clear n0_ n1_; (try clear hb); (try clear hb2); (try clear hk); (try clear hi)) | ((with_reducible refine gate_dst (N := 9) rfl ?_); (try (refine gate_guard (by rfl) ?_; dsimp only)); refine box_event ?hg (N := 9) ?hd (cs := #[.bool false, .bool false, .bool false, .bool false, .bool false, .bool false, .int .i64 0, .int .i64 0, .int .i64 0, .int .i64 0]) (t := 29) ?hr ?_; (case hd => rfl); (case hg => rfl); (case hr => first | (go_simp; done) | (go_simp; rfl)); intro gb181 hg w32 hbox hb; have n0_ := Aside0.mk (Kd.R_below (by (with_reducible repeat (first | apply Kd.R_alloc | apply Kd.R_drewN | apply Kd.R_drew)); exact HO169.out) hb); have n1_ := Aside0.mk (below_step (by repeat (first | (with_reducible first | exact HB.out | apply below_alloc | apply pw_below_drewN | apply below_drew1) | exact HB.out)) hb); have n2_ := Aside0.mk (hbox); have n3_ := Aside0.mk ((by rw [hg]; exact (below_size (by repeat (first | (with_reducible first | exact HB.out | apply below_alloc | apply pw_below_drewN | apply below_drew1) | exact HB.out))) : w.heap.size ≤ gb181)); have n4_ := Aside0.mk ((by rw [hg]; exact (below_size (by repeat (first | (with_reducible first | exact HB.out | apply below_alloc | apply pw_below_drewN | apply below_drew1) | exact HB.out))) : w.heap.size ≤ gb181)); clear HO169; clear HB; have HO169 := n0_; have HB := n1_; have BK181 := n2_; have GW181 := n3_; have GE181 := n4_; clear n0_ n1_ n2_ n3_ n4_; clear hb hbox hg; have hcz33_0 : w32.cell? ⟨gb181, 0, none⟩ = some (.bool false) := (blk_cell BK181.out 0).trans rfl; have hcz33_1 : w32.cell? ⟨gb181, 1, none⟩ = some (.bool false) := (blk_cell BK181.out 1).trans rfl; have hcz33_2 : w32.cell? ⟨gb181, 2, none⟩ = some (.bool false) := (blk_cell BK181.out 2).trans rfl; have hcz33_3 : w32.cell? ⟨gb181, 3, none⟩ = some (.bool false) := (blk_cell BK181.out 3).trans rfl; have hcz33_4 : w32.cell? ⟨gb181, 4, none⟩ = some (.bool false) := (blk_cell BK181.out 4).trans rfl; have hcz33_5 : w32.cell? ⟨gb181, 5, none⟩ = some (.bool false) := (blk_cell BK181.out 5).trans rfl; have hcz33_6 : w32.cell? ⟨gb181, 6, none⟩ = some (.int .i64 0) := (blk_cell BK181.out 6).trans rfl; have hcz33_7 : w32.cell? ⟨gb181, 7, none⟩ = some (.int .i64 0) := (blk_cell BK181.out 7).trans rfl; have hcz33_8 : w32.cell? ⟨gb181, 8, none⟩ = some (.int .i64 0) := (blk_cell BK181.out 8).trans rfl; have hcz33_9 : w32.cell? ⟨gb181, 9, none⟩ = some (.int .i64 0) := (blk_cell BK181.out 9).trans rfl; have hfz33_0 := blk_frozen BK181.out 0; have hfz33_1 := blk_frozen BK181.out 1; have hfz33_2 := blk_frozen BK181.out 2; have hfz33_3 := blk_frozen BK181.out 3; have hfz33_4 := blk_frozen BK181.out 4; have hfz33_5 := blk_frozen BK181.out 5; have hfz33_6 := blk_frozen BK181.out 6; have hfz33_7 := blk_frozen BK181.out 7; have hfz33_8 := blk_frozen BK181.out 8; have hfz33_9 := blk_frozen BK181.out 9))
                            have n1_ : Aside0 (((((((((((w32.setCell ⟨gb181, 0, none⟩ (.bool t171)).setCell ⟨gb181, 1, none⟩ (.bool t172)).setCell ⟨gb181, 2, none⟩ (.bool t173)).setCell ⟨gb181, 3, none⟩ (.bool t174)).setCell ⟨gb181, 4, none⟩ (.bool t175)).setCell ⟨gb181, 5, none⟩ (.bool t176)).setCell ⟨gb181, 6, none⟩ (.int .i64 t177)).setCell ⟨gb181, 7, none⟩ (.int .i64 t178)).setCell ⟨gb181, 8, none⟩ (.int .i64 t179)).setCell ⟨gb181, 9, none⟩ (.int .i64 t180)).heap[gb181]? = some (.cells #[.bool t171, .bool t172, .bool t173, .bool t174, .bool t175, .bool t176, .int .i64 t177, .int .i64 t178, .int .i64 t179, .int .i64 t180] 29 (0, 0))) := ⟨by refine blk_put (cs := #[.bool t171, .bool t172, .bool t173, .bool t174, .bool t175, .bool t176, .int .i64 t177, .int .i64 t178, .int .i64 t179, .int .i64 0]) ?_ 9 _ rfl; refine blk_put (cs := #[.bool t171, .bool t172, .bool t173, .bool t174, .bool t175, .bool t176, .int .i64 t177, .int .i64 t178, .int .i64 0, .int .i64 0]) ?_ 8 _ rfl; refine blk_put (cs := #[.bool t171, .bool t172, .bool t173, .bool t174, .bool t175, .bool t176, .int .i64 t177, .int .i64 0, .int .i64 0, .int .i64 0]) ?_ 7 _ rfl; refine blk_put (cs := #[.bool t171, .bool t172, .bool t173, .bool t174, .bool t175, .bool t176, .int .i64 0, .int .i64 0, .int .i64 0, .int .i64 0]) ?_ 6 _ rfl; refine blk_put (cs := #[.bool t171, .bool t172, .bool t173, .bool t174, .bool t175, .bool false, .int .i64 0, .int .i64 0, .int .i64 0, .int .i64 0]) ?_ 5 _ rfl; refine blk_put (cs := #[.bool t171, .bool t172, .bool t173, .bool t174, .bool false, .bool false, .int .i64 0, .int .i64 0, .int .i64 0, .int .i64 0]) ?_ 4 _ rfl; refine blk_put (cs := #[.bool t171, .bool t172, .bool t173, .bool false, .bool false, .bool false, .int .i64 0, .int .i64 0, .int .i64 0, .int .i64 0]) ?_ 3 _ rfl; refine blk_put (cs := #[.bool t171, .bool t172, .bool false, .bool false, .bool false, .bool false, .int .i64 0, .int .i64 0, .int .i64 0, .int .i64 0]) ?_ 2 _ rfl; refine blk_put (cs := #[.bool t171, .bool false, .bool false, .bool false, .bool false, .bool false, .int .i64 0, .int .i64 0, .int .i64 0, .int .i64 0]) ?_ 1 _ rfl; refine blk_put (cs := #[.bool false, .bool false, .bool false, .bool false, .bool false, .bool false, .int .i64 0, .int .i64 0, .int .i64 0, .int .i64 0]) ?_ 0 _ rfl; exact BK181.out⟩
                            have n2_ : Aside0 (Below w.heap.size w ((((((((((w32.setCell ⟨gb181, 0, none⟩ (.bool t171)).setCell ⟨gb181, 1, none⟩ (.bool t172)).setCell ⟨gb181, 2, none⟩ (.bool t173)).setCell ⟨gb181, 3, none⟩ (.bool t174)).setCell ⟨gb181, 4, none⟩ (.bool t175)).setCell ⟨gb181, 5, none⟩ (.bool t176)).setCell ⟨gb181, 6, none⟩ (.int .i64 t177)).setCell ⟨gb181, 7, none⟩ (.int .i64 t178)).setCell ⟨gb181, 8, none⟩ (.int .i64 t179)).setCell ⟨gb181, 9, none⟩ (.int .i64 t180))) := ⟨by repeat (first | (with_reducible first | exact HB.out | refine below_set ?_ GE181.out) | exact HB.out)⟩
                            have n3_ : ((((((((((w32.setCell ⟨gb181, 0, none⟩ (.bool t171)).setCell ⟨gb181, 1, none⟩ (.bool t172)).setCell ⟨gb181, 2, none⟩ (.bool t173)).setCell ⟨gb181, 3, none⟩ (.bool t174)).setCell ⟨gb181, 4, none⟩ (.bool t175)).setCell ⟨gb181, 5, none⟩ (.bool t176)).setCell ⟨gb181, 6, none⟩ (.int .i64 t177)).setCell ⟨gb181, 7, none⟩ (.int .i64 t178)).setCell ⟨gb181, 8, none⟩ (.int .i64 t179)).setCell ⟨gb181, 9, none⟩ (.int .i64 t180)).heap.size = w32.heap.size := by simp
                            clear HO169 BK181 HB
                            generalize ((((((((((w32.setCell ⟨gb181, 0, none⟩ (.bool t171)).setCell ⟨gb181, 1, none⟩ (.bool t172)).setCell ⟨gb181, 2, none⟩ (.bool t173)).setCell ⟨gb181, 3, none⟩ (.bool t174)).setCell ⟨gb181, 4, none⟩ (.bool t175)).setCell ⟨gb181, 5, none⟩ (.bool t176)).setCell ⟨gb181, 6, none⟩ (.int .i64 t177)).setCell ⟨gb181, 7, none⟩ (.int .i64 t178)).setCell ⟨gb181, 8, none⟩ (.int .i64 t179)).setCell ⟨gb181, 9, none⟩ (.int .i64 t180)) = wq at n1_ n2_ n3_ ⊢
                            (try rw [← n3_])
                            clear n3_
                            have e20 := Option.some.inj (show some (false, false, false, false, false, false, (-1 : Int), (-1 : Int), (-1 : Int), (-1 : Int)) = some (t171, t172, t173, t174, t175, t176, t177, t178, t179, t180) from A20.out)
                            simp only [Prod.mk.injEq] at e20
                            clear A20
                            obtain ⟨rfl, rfl, rfl, rfl, rfl, rfl, rfl, rfl, rfl, rfl⟩ := e20
                            obtain ⟨na, hna⟩ := Int.eq_ofNat_of_zero_le (of_decide_eq_true c18b0)
                            have h8 : na < 8 := by have h1_ := of_decide_eq_true c19b0; rw [Ny167.out] at h1_; simp at h1_; omega
                            have HNA := Aside0.mk hna
                            have HN8 := Aside0.mk h8
                            have HNE := Aside0.mk (Nat.ne_of_gt (blk_lt n1_.out))
                            clear hna h8
                            go_loopg [56] 7 (fun kq v56 w' => ∃ n : Nat, v56 = .int .i64 n ∧ Aside0 (n + kq = 7) ∧ Aside0 (w'.heap[wq.heap.size]? = some (.cells (ptrsOf gb181) 46 (0, 0))) ∧ Aside0 (w'.heap[gb181]? = some (.cells (flgCells na n) 29 (0, 0))) ∧ Aside0 (Below w.heap.size w w'))
                            case atStart => exact ⟨0, rfl, ⟨rfl⟩, ⟨heap_alloc_new _ _⟩, ⟨blk_alloc n1_.out _⟩, ⟨below_alloc n2_.out _⟩⟩
                            case round =>
                              clear n1_ n2_
                              obtain ⟨n, rfl, HI, HP, BK181, HB⟩ := hrel
                              cases gk with
                              | succ kk =>
                                have hcell : wr.cell? ⟨wq.heap.size, n, none⟩ = some (.pointer (some ⟨gb181, fldOf n, none⟩)) := by rw [Lib.cell_of_heap HP.out]; exact ptrs_at gb181 n (by have h_ := HI.out; omega)
                                have h7 : decide ((n : Int) < 7) = true := decide_eq_true (by have h_ := HI.out; omega)
                                have p7 : ((n : Int) < 7) = True := eq_true (by have h_ := HI.out; omega)
                                have p0 : (0 ≤ (n : Int)) = True := eq_true (by omega)
                                have hw1 : wrap64 ((n : Int) + 1) = ((n + 1 : Nat) : Int) := by have h_ := HI.out; unfold wrap64; omega
                                by_cases he : n = na
                                · have heb : ((n : Int) == a0) = true := beq_iff_eq.mpr (by rw [HNA.out, he])
                                  have hcz : wr.cell? ⟨gb181, fldOf n, none⟩ = some (.bool false) := by subst he; exact (blk_cell BK181.out _).trans (cells_fresh n (by have h_ := HI.out; omega))
                                  have hfz := blk_frozen BK181.out (fldOf n)
                                  have HE := Aside0.mk he
                                  clear he
                                  obtain ⟨j, hj⟩ : ∃ j, j = fldOf n := ⟨_, rfl⟩
                                  rw [← hj] at hcell hcz hfz
                                  have HJ := Aside0.mk hj
                                  clear hj
                                  go_wp2
                                  go_roundg kk
                                  case measure => omega
                                  case rel =>
                                    have he := HE.out
                                    have hj := HJ.out
                                    subst he
                                    subst hj
                                    exact ⟨n + 1, (by first | rw [hw1] | simp [hw1]), ⟨by have h_ := HI.out; omega⟩, ⟨blk_far HP.out HNE.out _⟩, ⟨blk_put BK181.out (fldOf n) _ (cells_step n (by have h_ := HI.out; omega))⟩, ⟨below_set HB.out GE181.out⟩⟩
                                · have heb : ((n : Int) == a0) = false := beq_eq_false_iff_ne.mpr (by rw [HNA.out]; omega)
                                  have HE := Aside0.mk he
                                  clear he
                                  obtain ⟨j, hj⟩ : ∃ j, j = fldOf n := ⟨_, rfl⟩
                                  rw [← hj] at hcell
                                  clear hj
                                  go_wp2
                                  go_roundg kk
                                  case measure => omega
                                  case rel => exact ⟨n + 1, (by first | rw [hw1] | simp [hw1]), ⟨by have h_ := HI.out; omega⟩, HP, ⟨by rw [cells_same na n HE.out]; exact BK181.out⟩, HB⟩
                              | zero =>
                                have n9_ : n = 7 := by have h_ := HI.out; omega
                                subst n9_
                                have h7 : decide (((7 : Nat) : Int) < 7) = false := by decide
                                have n1_ : Aside0 (wr.heap[gb181]? = some (.cells #[.bool (a0 == 0), .bool (a0 == 1), .bool (a0 == 2), .bool (a0 == 3), .bool ((wrap64 (Int.tdiv a0 2)) == 2), .bool (a0 == 6), .int .i64 (-1), .int .i64 (-1), .int .i64 (-1), .int .i64 (-1)] 29 (0, 0))) := ⟨by rw [← cells_end a0 na HNA.out HN8.out]; exact BK181.out⟩
                                clear BK181 HI HP HNA HN8 HNE
                                have BK181 := n1_
                                clear n1_
                                have HO169 := Aside0.mk True.intro
                                generalize hnm_ : rdOf ByteArray.empty y167 a0 = nm at A22 ⊢
                                clear hnm_
                                obtain ⟨wo, hwo⟩ : ∃ wo : World, wo = wr := ⟨_, rfl⟩
                                subst hwo
                                have kb := run_bytesW nm wo
                                have hg := A22.out
                                unfold greatB.f at hg
                                by_cases hz : nm.size = 0
                                · rw [if_pos hz] at hg; cases hg
                                rw [if_neg hz] at hg
                                have HTV := Aside0.mk (Option.some.inj hg)
                                clear hg
                                have hsz : nm.data.toList.length = nm.size := by simp
                                obtain ⟨c, l, hcl⟩ : ∃ c l, nm.data.toList = c :: l := by cases hl_ : nm.data.toList with | nil => rw [hl_] at hsz; exact absurd hsz.symm hz | cons c l => exact ⟨c, l, rfl⟩
                                have hrow := bytesW_row nm wo
                                rw [hcl] at hrow hsz HTV
                                have hcell : (bytesW nm wo).cell? ⟨wo.heap.size, 0, none⟩ = some (.int .u8 (c.toNat : Int)) := hrow.cell 0 (by simp)
                                have hfr := hrow.froz 0 (by simp)
                                have hc255 : c.toNat < 256 := c.toNat_lt
                                have hback := (hrow.set 0 (by simp) (((c.toNat : Int) - 32) % 256) (by omega) (by omega)).back nm.size (capB nm wo) (by rw [List.length_set]; exact hsz)
                                rw [show (⟨((c :: l).set 0 (UInt8.ofNat (((c.toNat : Int) - 32) % 256).toNat)).toArray⟩ : ByteArray) = t182 from HTV.out] at hback
                                have nB_ := Aside0.mk (bytesW_below nm HB.out)
                                have nK_ : Aside0 ((bytesW nm wo).heap[gb181]? = wo.heap[gb181]?) := ⟨by unfold bytesW; exact Below.heap_alloc wo.drew _ gb181 (blk_lt BK181.out)⟩
                                have nS_ := Aside0.mk (Nat.ne_of_lt (blk_lt BK181.out))
                                have nG_ := Aside0.mk HB.out.size
                                have q0 : ((0 : Int) < (nm.size : Int)) = True := eq_true (by omega)
                                have q1 : (0 < nm.size) = True := eq_true (by omega)
                                generalize bytesW nm wo = w1 at *
                                generalize capB nm wo = cp at *
                                clear hsz hcl hz hrow hc255
                                obtain ⟨z, hzz⟩ : ∃ z : Int, z = (c.toNat : Int) := ⟨_, rfl⟩
                                rw [← hzz] at hcell hback
                                clear hzz
                                go_wp2
                                have n1_ : Aside0 ((w1.setCell ⟨wo.heap.size, 0, none⟩ (.int .u8 ((z - 32) % 256))).heap[gb181]? = some (.cells #[.bool (a0 == 0), .bool (a0 == 1), .bool (a0 == 2), .bool (a0 == 3), .bool ((wrap64 (Int.tdiv a0 2)) == 2), .bool (a0 == 6), .int .i64 (-1), .int .i64 (-1), .int .i64 (-1), .int .i64 (-1)] 29 (0, 0))) := ⟨blk_far (nK_.out.trans BK181.out) nS_.out _⟩
                                have n2_ : Aside0 (Below w.heap.size w (w1.setCell ⟨wo.heap.size, 0, none⟩ (.int .u8 ((z - 32) % 256)))) := ⟨below_set nB_.out nG_.out⟩
                                clear BK181 HB hcell hfr hback kb nB_ nK_ nS_ nG_
                                generalize (w1.setCell ⟨wo.heap.size, 0, none⟩ (.int .u8 ((z - 32) % 256))) = w34 at n1_ n2_ ⊢
                                have BK181 := n1_
                                have HB := n2_
                                clear n1_ n2_
                                have n0_ := HO169
                                have n1_ := Aside0.mk (blk_drew BK181.out)
                                have n2_ := Aside0.mk (below_drew1 HB.out)
                                clear HO169
                                clear BK181
                                clear HB
                                have HO169 := n0_
                                have BK181 := n1_
                                have HB := n2_
                                clear n0_ n1_ n2_
                                refine start_ (n := 14) (S := fun w' => w'.cell? ⟨gb181, 0, none⟩ = some (.bool (a0 == 0)) ∧ w'.cell? ⟨gb181, 1, none⟩ = some (.bool (a0 == 1)) ∧ w'.cell? ⟨gb181, 2, none⟩ = some (.bool (a0 == 2)) ∧ w'.cell? ⟨gb181, 3, none⟩ = some (.bool (a0 == 3)) ∧ w'.cell? ⟨gb181, 4, none⟩ = some (.bool ((wrap64 (Int.tdiv a0 2)) == 2)) ∧ w'.cell? ⟨gb181, 5, none⟩ = some (.bool (a0 == 6)) ∧ w'.cell? ⟨gb181, 6, none⟩ = some (.int .i64 (-1)) ∧ w'.cell? ⟨gb181, 7, none⟩ = some (.int .i64 (-1)) ∧ w'.cell? ⟨gb181, 8, none⟩ = some (.int .i64 (-1)) ∧ w'.cell? ⟨gb181, 9, none⟩ = some (.int .i64 (-1))) (ds := []) #[false, false, false, false, false, false, false, false, false, false, false, false, false, false] (by kernel_rfl) rfl rfl ⟨(blk_cell BK181.out 0).trans rfl, (blk_cell BK181.out 1).trans rfl, (blk_cell BK181.out 2).trans rfl, (blk_cell BK181.out 3).trans rfl, (blk_cell BK181.out 4).trans rfl, (blk_cell BK181.out 5).trans rfl, (blk_cell BK181.out 6).trans rfl, (blk_cell BK181.out 7).trans rfl, (blk_cell BK181.out 8).trans rfl, (blk_cell BK181.out 9).trans rfl⟩ (fun hHeld => ?_); refine with_tabW pantrylaw04_ControlFlags.tab23 pantrylaw04_ControlFlags.bits23 (fun HT_ HW_ => ?_)
                                generalize w34.drew = w35 at BK181 HB hHeld ⊢
                                refine pure_ (i := 0) (N := some 77) (v := ?_) (a' := ?_) #[true, false, false, false, false, false, false, false, false, false, false, false, false, false] rfl rfl (any_of HT_.out (by kernel_rfl)) (fun _ _ _ h => h) (Or.inl ⟨by rfl, ?_⟩) ?_ ?_
                                rotate_left
                                · intro w'
                                  go_simp
                                  with_reducible rfl
                                rotate_left
                                · simp only [Act.put, List.setIfInBounds_toArray, List.set_cons_zero, List.set_cons_succ, i64_w, i32_w]
                                  rfl
                                refine take_ (i := 2) (N := some 79) (v := ?_) (a' := ?_) #[true, false, true, false, false, false, false, false, false, false, false, false, false, false] rfl rfl (take_ofW HT_.out HW_.out (by kernel_rfl)) (fun _ _ _ h => h) (Or.inl ⟨by rfl, ?_⟩) hHeld ?_ ?_
                                rotate_left
                                · rintro w' ⟨s0, s1, s2, s3, s4, s5, s6, s7, s8, s9⟩
                                  go_simp
                                  with_reducible rfl
                                rotate_left
                                · simp only [Act.put, List.setIfInBounds_toArray, List.set_cons_zero, List.set_cons_succ, i64_w, i32_w]
                                  rfl
                                refine one_ (i := 1) (N := some 78) #[true, true, true, false, false, false, false, false, false, false, false, false, false, false] rfl rfl (one_of HT_.out (by kernel_rfl)) (by decide) (fun K hK => ?_)
                                refine goes_ Tryd.func15 (by kernel_rfl) rfl #[.string t182] (by rfl) rfl rfl (by (try simp only [List.map_toArray, List.map_cons, List.map_nil]); first | done | rfl | (simp only [List.length_drop, List.length_take]; rfl)) ?_
                                with_reducible refine (pantrylaw04_of.calls k2 t182 t183 t184 t185 t186 t187 t188 t189 t190 t191 t192 _ A23.out).mono ?_
                                rintro e w36 ⟨rfl, hb⟩
                                refine ⟨_, rfl, ?_⟩
                                have n0_ := HO169
                                have n1_ := Aside0.mk (blk_below (g := gb181) (o := .cells #[.bool (a0 == 0), .bool (a0 == 1), .bool (a0 == 2), .bool (a0 == 3), .bool ((wrap64 (Int.tdiv a0 2)) == 2), .bool (a0 == 6), .int .i64 (-1), .int .i64 (-1), .int .i64 (-1), .int .i64 (-1)] 29 (0, 0)) (by (with_reducible repeat (first | refine blk_drewN ?_ _ | refine blk_drew ?_ | refine blk_alloc ?_ _)); exact BK181.out) hb)
                                have n2_ := Aside0.mk (below_step (by repeat (first | (with_reducible first | exact HB.out | apply below_alloc | apply pw_below_drewN | apply below_drew1 | refine below_set ?_ GE181.out) | exact HB.out)) hb)
                                clear HO169
                                clear BK181
                                clear HB
                                have HO169 := n0_
                                have BK181 := n1_
                                have HB := n2_
                                clear n0_ n1_ n2_
                                (try clear hb)
                                (try clear hb2)
                                (try clear hk)
                                (try clear hi)
                                refine hK.out _ _ ⟨(blk_cell BK181.out 0).trans rfl, (blk_cell BK181.out 1).trans rfl, (blk_cell BK181.out 2).trans rfl, (blk_cell BK181.out 3).trans rfl, (blk_cell BK181.out 4).trans rfl, (blk_cell BK181.out 5).trans rfl, (blk_cell BK181.out 6).trans rfl, (blk_cell BK181.out 7).trans rfl, (blk_cell BK181.out 8).trans rfl, (blk_cell BK181.out 9).trans rfl⟩ (fun hHeld => ?_)
                                clear hK K
                                refine norm_ (a' := ?_) ?_ ?_
                                rotate_left
                                · show Act.put _ (some 78) _ = _
                                  simp only [Act.put, List.setIfInBounds_toArray, List.set_cons_zero, List.set_cons_succ, i64_w, i32_w]
                                  rfl
                                refine pure_ (i := 3) (N := some 80) (v := ?_) (a' := ?_) #[true, true, true, true, false, false, false, false, false, false, false, false, false, false] rfl rfl (any_of HT_.out (by kernel_rfl)) (fun _ _ _ h => h) (Or.inl ⟨by rfl, ?_⟩) ?_ ?_
                                rotate_left
                                · intro w'
                                  go_simp
                                  with_reducible rfl
                                rotate_left
                                · simp only [Act.put, List.setIfInBounds_toArray, List.set_cons_zero, List.set_cons_succ, i64_w, i32_w]
                                  rfl
                                refine pure_ (i := 4) (N := some 81) (v := ?_) (a' := ?_) #[true, true, true, true, true, false, false, false, false, false, false, false, false, false] rfl rfl (any_of HT_.out (by kernel_rfl)) (fun _ _ _ h => h) (Or.inl ⟨by rfl, ?_⟩) ?_ ?_
                                rotate_left
                                · intro w'
                                  go_simp
                                  with_reducible rfl
                                rotate_left
                                · simp only [Act.put, List.setIfInBounds_toArray, List.set_cons_zero, List.set_cons_succ, i64_w, i32_w]
                                  rfl
                                refine pure_ (i := 5) (N := some 82) (v := ?_) (a' := ?_) #[true, true, true, true, true, true, false, false, false, false, false, false, false, false] rfl rfl (any_of HT_.out (by kernel_rfl)) (fun _ _ _ h => h) (Or.inl ⟨by rfl, ?_⟩) ?_ ?_
                                rotate_left
                                · intro w'
                                  go_simp
                                  with_reducible rfl
                                rotate_left
                                · simp only [Act.put, List.setIfInBounds_toArray, List.set_cons_zero, List.set_cons_succ, i64_w, i32_w]
                                  rfl
                                refine pure_ (i := 6) (N := some 83) (v := ?_) (a' := ?_) #[true, true, true, true, true, true, true, false, false, false, false, false, false, false] rfl rfl (any_of HT_.out (by kernel_rfl)) (fun _ _ _ h => h) (Or.inl ⟨by rfl, ?_⟩) ?_ ?_
                                rotate_left
                                · intro w'
                                  go_simp
                                  with_reducible rfl
                                rotate_left
                                · simp only [Act.put, List.setIfInBounds_toArray, List.set_cons_zero, List.set_cons_succ, i64_w, i32_w]
                                  rfl
                                refine pure_ (i := 7) (N := some 84) (v := ?_) (a' := ?_) #[true, true, true, true, true, true, true, true, false, false, false, false, false, false] rfl rfl (any_of HT_.out (by kernel_rfl)) (fun _ _ _ h => h) (Or.inl ⟨by rfl, ?_⟩) ?_ ?_
                                rotate_left
                                · intro w'
                                  go_simp
                                  with_reducible rfl
                                rotate_left
                                · simp only [Act.put, List.setIfInBounds_toArray, List.set_cons_zero, List.set_cons_succ, i64_w, i32_w]
                                  rfl
                                refine pure_ (i := 8) (N := some 85) (v := ?_) (a' := ?_) #[true, true, true, true, true, true, true, true, true, false, false, false, false, false] rfl rfl (any_of HT_.out (by kernel_rfl)) (fun _ _ _ h => h) (Or.inl ⟨by rfl, ?_⟩) ?_ ?_
                                rotate_left
                                · intro w'
                                  go_simp
                                  with_reducible rfl
                                rotate_left
                                · simp only [Act.put, List.setIfInBounds_toArray, List.set_cons_zero, List.set_cons_succ, i64_w, i32_w]
                                  rfl
                                refine take_ (i := 10) (N := some 87) (v := ?_) (a' := ?_) #[true, true, true, true, true, true, true, true, true, false, true, false, false, false] rfl rfl (take_ofW HT_.out HW_.out (by kernel_rfl)) (fun _ _ _ h => h) (Or.inl ⟨by rfl, ?_⟩) hHeld ?_ ?_
                                rotate_left
                                · rintro w' ⟨s0, s1, s2, s3, s4, s5, s6, s7, s8, s9⟩
                                  go_simp
                                  with_reducible rfl
                                rotate_left
                                · simp only [Act.put, List.setIfInBounds_toArray, List.set_cons_zero, List.set_cons_succ, i64_w, i32_w]
                                  rfl
                                refine one_ (i := 9) (N := some 86) #[true, true, true, true, true, true, true, true, true, true, true, false, false, false] rfl rfl (one_of HT_.out (by kernel_rfl)) (by decide) (fun K hK => ?_)
                                refine goes_ Tryd.func15 (by kernel_rfl) rfl #[.string ((t182 ++ (⟨#[61]⟩ : ByteArray)) ++ a2)] (by rfl) rfl rfl (by (try simp only [List.map_toArray, List.map_cons, List.map_nil]); first | done | rfl | (simp only [List.length_drop, List.length_take]; rfl)) ?_
                                with_reducible refine (pantrylaw04_of.calls k2 ((t182 ++ (⟨#[61]⟩ : ByteArray)) ++ a2) t193 t194 t195 t196 t197 t198 t199 t200 t201 t202 _ A27.out).mono ?_
                                rintro e w37 ⟨rfl, hb⟩
                                refine ⟨_, rfl, ?_⟩
                                have n0_ := HO169
                                have n1_ := Aside0.mk (blk_below (g := gb181) (o := .cells #[.bool (a0 == 0), .bool (a0 == 1), .bool (a0 == 2), .bool (a0 == 3), .bool ((wrap64 (Int.tdiv a0 2)) == 2), .bool (a0 == 6), .int .i64 (-1), .int .i64 (-1), .int .i64 (-1), .int .i64 (-1)] 29 (0, 0)) (by (with_reducible repeat (first | refine blk_drewN ?_ _ | refine blk_drew ?_ | refine blk_alloc ?_ _)); exact BK181.out) hb)
                                have n2_ := Aside0.mk (below_step (by repeat (first | (with_reducible first | exact HB.out | apply below_alloc | apply pw_below_drewN | apply below_drew1 | refine below_set ?_ GE181.out) | exact HB.out)) hb)
                                clear HO169
                                clear BK181
                                clear HB
                                have HO169 := n0_
                                have BK181 := n1_
                                have HB := n2_
                                clear n0_ n1_ n2_
                                (try clear hb)
                                (try clear hb2)
                                (try clear hk)
                                (try clear hi)
                                refine hK.out _ _ ⟨(blk_cell BK181.out 0).trans rfl, (blk_cell BK181.out 1).trans rfl, (blk_cell BK181.out 2).trans rfl, (blk_cell BK181.out 3).trans rfl, (blk_cell BK181.out 4).trans rfl, (blk_cell BK181.out 5).trans rfl, (blk_cell BK181.out 6).trans rfl, (blk_cell BK181.out 7).trans rfl, (blk_cell BK181.out 8).trans rfl, (blk_cell BK181.out 9).trans rfl⟩ (fun hHeld => ?_)
                                clear hK K
                                refine norm_ (a' := ?_) ?_ ?_
                                rotate_left
                                · show Act.put _ (some 86) _ = _
                                  simp only [Act.put, List.setIfInBounds_toArray, List.set_cons_zero, List.set_cons_succ, i64_w, i32_w]
                                  rfl
                                refine pure_ (i := 11) (N := some 88) (v := ?_) (a' := ?_) #[true, true, true, true, true, true, true, true, true, true, true, true, false, false] rfl rfl (any_of HT_.out (by kernel_rfl)) (fun _ _ _ h => h) (Or.inl ⟨by rfl, ?_⟩) ?_ ?_
                                rotate_left
                                · intro w'
                                  go_simp
                                  with_reducible rfl
                                rotate_left
                                · simp only [Act.put, List.setIfInBounds_toArray, List.set_cons_zero, List.set_cons_succ, i64_w, i32_w]
                                  rfl
                                refine pure_ (i := 12) (N := some 89) (v := ?_) (a' := ?_) #[true, true, true, true, true, true, true, true, true, true, true, true, true, false] rfl rfl (any_of HT_.out (by kernel_rfl)) (fun _ _ _ h => h) (Or.inl ⟨by rfl, ?_⟩) ?_ ?_
                                rotate_left
                                · intro w'
                                  go_simp
                                  with_reducible rfl
                                rotate_left
                                · simp only [Act.put, List.setIfInBounds_toArray, List.set_cons_zero, List.set_cons_succ, i64_w, i32_w]
                                  rfl
                                refine pure_ (i := 13) (N := some 6) (v := ?_) (a' := ?_) #[true, true, true, true, true, true, true, true, true, true, true, true, true, true] rfl rfl (any_of HT_.out (by kernel_rfl)) (fun _ _ _ h => h) (Or.inl ⟨by rfl, ?_⟩) ?_ ?_
                                rotate_left
                                · intro w'
                                  go_simp
                                  with_reducible rfl
                                rotate_left
                                · simp only [Act.put, List.setIfInBounds_toArray, List.set_cons_zero, List.set_cons_succ, i64_w, i32_w]
                                  rfl
                                refine done_ (done_of HT_.out (by kernel_rfl)) ?_
                                try go_wp2
                                go_ret
                                exact ⟨by first | rfl | (generalize ByteArray.toList _ = l_; cases l_ <;> rfl) | (simp [errW_none, errW_some] <;> rfl) | (simp [*, errW_none, errW_some] <;> rfl), by repeat (first | (with_reducible first | exact HB.out | apply below_alloc | apply pw_below_drewN | apply below_drew1 | refine below_set ?_ GE181.out) | exact HB.out)⟩
                          · rw [if_neg c26] at H
                            exact absurd H (by simp)
                        · rw [if_neg c25] at H
                          exact absurd H (by simp)
                      · rw [if_neg c24] at H
                        have c24b0 : (t183 == (a0 == 0) && (t184 == (a0 == 1) && (t185 == (a0 == 2) && (t186 == (a0 == 3) && (t187 == ((wrap64 (Int.tdiv a0 2)) == 2) && (t188 == (a0 == 6) && (t189 == (-1) && (t190 == (-1) && (t191 == (-1) && (t192 == (-1))))))))))) = false := by simpa using c24
                        (try (have c24b1 : decide (t183 = (a0 == 0) && (t184 == (a0 == 1) && (t185 == (a0 == 2) && (t186 == (a0 == 3) && (t187 == ((wrap64 (Int.tdiv a0 2)) == 2) && (t188 == (a0 == 6) && (t189 == (-1) && (t190 == (-1) && (t191 == (-1) && (t192 == (-1))))))))))) = false := by simpa using c24))
                        (try (have c24b2 : (t183 == (a0 == 0) && (t184 == (a0 == 1) && (t185 == (a0 == 2) && (t186 == (a0 == 3) && (t187 == ((wrap64 (Int.tdiv a0 2)) == 2) && (t188 == (a0 == 6) && (t189 == (-1) && (t190 == (-1) && (t191 == (-1) && (t192 == (-1))))))))))) = false := by simpa using c24))
                        (try (have c24b3 : ¬ (t183 = (a0 == 0) && (t184 == (a0 == 1) && (t185 == (a0 == 2) && (t186 == (a0 == 3) && (t187 == ((wrap64 (Int.tdiv a0 2)) == 2) && (t188 == (a0 == 6) && (t189 == (-1) && (t190 == (-1) && (t191 == (-1) && (t192 == (-1))))))))))) := by simpa using c24))
                        clear c24
                        exact absurd H (by simp)
                    · replace c21 := Bool.eq_false_iff.mpr c21
                      subst c21
                      have H1 : ((pantrylaw04_of.f k2 (rdOf ByteArray.empty y167 a0)).bind fun bt203 => (if (bt203.1 == (a0 == 0) && (bt203.2.1 == (a0 == 1) && (bt203.2.2.1 == (a0 == 2) && (bt203.2.2.2.1 == (a0 == 3) && (bt203.2.2.2.2.1 == ((wrap64 (Int.tdiv a0 2)) == 2) && (bt203.2.2.2.2.2.1 == (a0 == 6) && (bt203.2.2.2.2.2.2.1 == (-1) && (bt203.2.2.2.2.2.2.2.1 == (-1) && (bt203.2.2.2.2.2.2.2.2.1 == (-1) && (bt203.2.2.2.2.2.2.2.2.2 == (-1))))))))))) = true then (if (rdOf ByteArray.empty y167 a0).size + 1 ≤ 9223372036854775807 then (if ((rdOf ByteArray.empty y167 a0) ++ (⟨#[61]⟩ : ByteArray)).size + a2.size ≤ 9223372036854775807 then ((pantrylaw04_of.f k2 (((rdOf ByteArray.empty y167 a0) ++ (⟨#[61]⟩ : ByteArray)) ++ a2)).bind fun bt213 => (some (bt213.1 == (a0 == 0) && (bt213.2.1 == (a0 == 1) && (bt213.2.2.1 == (a0 == 2) && (bt213.2.2.2.1 == (a0 == 3) && (bt213.2.2.2.2.1 == ((wrap64 (Int.tdiv a0 2)) == 2) && (bt213.2.2.2.2.2.1 == (a0 == 6) && (bt213.2.2.2.2.2.2.1 == (-1) && (bt213.2.2.2.2.2.2.2.1 == (-1) && (bt213.2.2.2.2.2.2.2.2.1 == (-1) && (bt213.2.2.2.2.2.2.2.2.2 == (-1))))))))))))) else (none)) else (none)) else (none))) = some r := by rw [if_neg (show ¬ (false = true) by decide)] at H; exact H
                      clear H
                      have H := H1
                      clear H1
                      replace H := Option.bind_eq_some_iff.mp H
                      obtain ⟨⟨t203, t204, t205, t206, t207, t208, t209, t210, t211, t212⟩, A380, H⟩ := H
                      replace H : (if (t203 == (a0 == 0) && (t204 == (a0 == 1) && (t205 == (a0 == 2) && (t206 == (a0 == 3) && (t207 == ((wrap64 (Int.tdiv a0 2)) == 2) && (t208 == (a0 == 6) && (t209 == (-1) && (t210 == (-1) && (t211 == (-1) && (t212 == (-1))))))))))) = true then (if (rdOf ByteArray.empty y167 a0).size + 1 ≤ 9223372036854775807 then (if ((rdOf ByteArray.empty y167 a0) ++ (⟨#[61]⟩ : ByteArray)).size + a2.size ≤ 9223372036854775807 then ((pantrylaw04_of.f k2 (((rdOf ByteArray.empty y167 a0) ++ (⟨#[61]⟩ : ByteArray)) ++ a2)).bind fun bt213 => (some (bt213.1 == (a0 == 0) && (bt213.2.1 == (a0 == 1) && (bt213.2.2.1 == (a0 == 2) && (bt213.2.2.2.1 == (a0 == 3) && (bt213.2.2.2.2.1 == ((wrap64 (Int.tdiv a0 2)) == 2) && (bt213.2.2.2.2.2.1 == (a0 == 6) && (bt213.2.2.2.2.2.2.1 == (-1) && (bt213.2.2.2.2.2.2.2.1 == (-1) && (bt213.2.2.2.2.2.2.2.2.1 == (-1) && (bt213.2.2.2.2.2.2.2.2.2 == (-1))))))))))))) else (none)) else (none)) else (none)) = some r := H
                      have A38 := Aside0.mk A380
                      clear A380
                      by_cases c39 : (t203 == (a0 == 0) && (t204 == (a0 == 1) && (t205 == (a0 == 2) && (t206 == (a0 == 3) && (t207 == ((wrap64 (Int.tdiv a0 2)) == 2) && (t208 == (a0 == 6) && (t209 == (-1) && (t210 == (-1) && (t211 == (-1) && (t212 == (-1))))))))))) = true
                      · rw [if_pos c39] at H
                        have c39b0 : (t203 == (a0 == 0) && (t204 == (a0 == 1) && (t205 == (a0 == 2) && (t206 == (a0 == 3) && (t207 == ((wrap64 (Int.tdiv a0 2)) == 2) && (t208 == (a0 == 6) && (t209 == (-1) && (t210 == (-1) && (t211 == (-1) && (t212 == (-1))))))))))) = true := c39
                        (try (have c39b1 : decide (t203 = (a0 == 0) && (t204 == (a0 == 1) && (t205 == (a0 == 2) && (t206 == (a0 == 3) && (t207 == ((wrap64 (Int.tdiv a0 2)) == 2) && (t208 == (a0 == 6) && (t209 == (-1) && (t210 == (-1) && (t211 == (-1) && (t212 == (-1))))))))))) = true := by simpa using c39))
                        (try (have c39b2 : (t203 == (a0 == 0) && (t204 == (a0 == 1) && (t205 == (a0 == 2) && (t206 == (a0 == 3) && (t207 == ((wrap64 (Int.tdiv a0 2)) == 2) && (t208 == (a0 == 6) && (t209 == (-1) && (t210 == (-1) && (t211 == (-1) && (t212 == (-1))))))))))) = true := by simpa using c39))
                        clear c39
                        by_cases c40 : (rdOf ByteArray.empty y167 a0).size + 1 ≤ 9223372036854775807
                        · rw [if_pos c40] at H
                          have c40b0 := eq_true c40
                          have c40b1 : decide ((rdOf ByteArray.empty y167 a0).size + 1 ≤ 9223372036854775807) = true := decide_eq_true c40
                          try have c40b2 : (9223372036854775807 < (rdOf ByteArray.empty y167 a0).size + 1) = False := eq_false (Nat.not_lt.2 c40)
                          by_cases c41 : ((rdOf ByteArray.empty y167 a0) ++ (⟨#[61]⟩ : ByteArray)).size + a2.size ≤ 9223372036854775807
                          · rw [if_pos c41] at H
                            have c41b0 := eq_true c41
                            have c41b1 : decide (((rdOf ByteArray.empty y167 a0) ++ (⟨#[61]⟩ : ByteArray)).size + a2.size ≤ 9223372036854775807) = true := decide_eq_true c41
                            try have c41b2 : (9223372036854775807 < ((rdOf ByteArray.empty y167 a0) ++ (⟨#[61]⟩ : ByteArray)).size + a2.size) = False := eq_false (Nat.not_lt.2 c41)
                            try have c41b3 : (9223372036854775807 < (rdOf ByteArray.empty y167 a0).size + 1 + a2.size) = False := by have h_ := c41; (simp only [ByteArray.size_append] at h_); exact eq_false (Nat.not_lt.2 h_)
                            replace H := Option.bind_eq_some_iff.mp H
                            obtain ⟨⟨t213, t214, t215, t216, t217, t218, t219, t220, t221, t222⟩, A420, H⟩ := H
                            replace H : (some (t213 == (a0 == 0) && (t214 == (a0 == 1) && (t215 == (a0 == 2) && (t216 == (a0 == 3) && (t217 == ((wrap64 (Int.tdiv a0 2)) == 2) && (t218 == (a0 == 6) && (t219 == (-1) && (t220 == (-1) && (t221 == (-1) && (t222 == (-1)))))))))))) = some r := H
                            have A42 := Aside0.mk A420
                            clear A420
                            obtain rfl := Option.some.inj H
                            go_wp2_with (first | ((with_reducible refine gate_dst (N := 42) rfl ?_); (try (refine gate_guard (by rfl) ?_; dsimp only)); refine Kd.R_lit Kd.string _ 9 ?hg (N := 42) ?hd (xs := ([(⟨#[110, 111, 45, 115, 116, 111, 114, 101]⟩ : ByteArray), (⟨#[110, 111, 45, 99, 97, 99, 104, 101]⟩ : ByteArray), (⟨#[112, 114, 105, 118, 97, 116, 101]⟩ : ByteArray), (⟨#[112, 117, 98, 108, 105, 99]⟩ : ByteArray), (⟨#[109, 117, 115, 116, 45, 114, 101, 118, 97, 108, 105, 100, 97, 116, 101]⟩ : ByteArray), (⟨#[112, 114, 111, 120, 121, 45, 114, 101, 118, 97, 108, 105, 100, 97, 116, 101]⟩ : ByteArray), (⟨#[111, 110, 108, 121, 45, 105, 102, 45, 99, 97, 99, 104, 101, 100]⟩ : ByteArray), (⟨#[110, 111, 45, 116, 114, 97, 110, 115, 102, 111, 114, 109]⟩ : ByteArray)] : List ByteArray)) (inner := [.string (⟨#[110, 111, 45, 115, 116, 111, 114, 101]⟩ : ByteArray), .string (⟨#[110, 111, 45, 99, 97, 99, 104, 101]⟩ : ByteArray), .string (⟨#[112, 114, 105, 118, 97, 116, 101]⟩ : ByteArray), .string (⟨#[112, 117, 98, 108, 105, 99]⟩ : ByteArray), .string (⟨#[109, 117, 115, 116, 45, 114, 101, 118, 97, 108, 105, 100, 97, 116, 101]⟩ : ByteArray), .string (⟨#[112, 114, 111, 120, 121, 45, 114, 101, 118, 97, 108, 105, 100, 97, 116, 101]⟩ : ByteArray), .string (⟨#[111, 110, 108, 121, 45, 105, 102, 45, 99, 97, 99, 104, 101, 100]⟩ : ByteArray), .string (⟨#[110, 111, 45, 116, 114, 97, 110, 115, 102, 111, 114, 109]⟩ : ByteArray)]) (ok := fun _ => True) (okp := fun _ => True) ?hr ?hp (fun _ hk => hk) trivial (Below.refl _ _) (Nat.le_refl _) (by simp) ?_; (case hd => rfl); (case hg => rfl); (case hr => first | (go_simp; done) | (go_simp; rfl)); (case hp => exact (Reps.one (show Kd.M Kd.string _ _ _ (⟨#[110, 111, 45, 115, 116, 111, 114, 101]⟩ : ByteArray) [.string (⟨#[110, 111, 45, 115, 116, 111, 114, 101]⟩ : ByteArray)] from rfl) (Reps.one (show Kd.M Kd.string _ _ _ (⟨#[110, 111, 45, 99, 97, 99, 104, 101]⟩ : ByteArray) [.string (⟨#[110, 111, 45, 99, 97, 99, 104, 101]⟩ : ByteArray)] from rfl) (Reps.one (show Kd.M Kd.string _ _ _ (⟨#[112, 114, 105, 118, 97, 116, 101]⟩ : ByteArray) [.string (⟨#[112, 114, 105, 118, 97, 116, 101]⟩ : ByteArray)] from rfl) (Reps.one (show Kd.M Kd.string _ _ _ (⟨#[112, 117, 98, 108, 105, 99]⟩ : ByteArray) [.string (⟨#[112, 117, 98, 108, 105, 99]⟩ : ByteArray)] from rfl) (Reps.one (show Kd.M Kd.string _ _ _ (⟨#[109, 117, 115, 116, 45, 114, 101, 118, 97, 108, 105, 100, 97, 116, 101]⟩ : ByteArray) [.string (⟨#[109, 117, 115, 116, 45, 114, 101, 118, 97, 108, 105, 100, 97, 116, 101]⟩ : ByteArray)] from rfl) (Reps.one (show Kd.M Kd.string _ _ _ (⟨#[112, 114, 111, 120, 121, 45, 114, 101, 118, 97, 108, 105, 100, 97, 116, 101]⟩ : ByteArray) [.string (⟨#[112, 114, 111, 120, 121, 45, 114, 101, 118, 97, 108, 105, 100, 97, 116, 101]⟩ : ByteArray)] from rfl) (Reps.one (show Kd.M Kd.string _ _ _ (⟨#[111, 110, 108, 121, 45, 105, 102, 45, 99, 97, 99, 104, 101, 100]⟩ : ByteArray) [.string (⟨#[111, 110, 108, 121, 45, 105, 102, 45, 99, 97, 99, 104, 101, 100]⟩ : ByteArray)] from rfl) (Reps.one (show Kd.M Kd.string _ _ _ (⟨#[110, 111, 45, 116, 114, 97, 110, 115, 102, 111, 114, 109]⟩ : ByteArray) [.string (⟨#[110, 111, 45, 116, 114, 97, 110, 115, 102, 111, 114, 109]⟩ : ByteArray)] from rfl) (Reps.none _ _)))))))))); intro v168 w43 ho44 hb hg_ hnew_; clear hg_ hnew_; (first | rw [← Ny167.out] at ho44 | (simp only [Int.reduceToNat] at ho44; rw [← Ny167.out] at ho44)); have n0_ := Aside0.mk (Kd.R_lower ho44 (below_size (by repeat (first | (with_reducible first | exact HB.out | apply below_alloc | apply pw_below_drewN | apply below_drew1) | exact HB.out)))); have n1_ := Aside0.mk (below_step (by repeat (first | (with_reducible first | exact HB.out | apply below_alloc | apply pw_below_drewN | apply below_drew1) | exact HB.out)) hb); clear HB; have HO169 := n0_; have HB := n1_; clear n0_ n1_; clear hb ho44; obtain ⟨Ao45, co45, eo45⟩ := Kd.R_slice HO169.out; subst eo45; have p170 : 0 ≤ (a0 : Int) := of_decide_eq_true (by first | (with_reducible assumption) | assumption); have q170 : a0 < (y167.length : Int) := of_decide_eq_true (by first | (with_reducible assumption) | assumption); obtain ⟨ad170, e170, hx170_0⟩ := Kd.at_string (Kd.R_reads' HO169.out).2.2 a0 p170 q170; cases e170; replace p170 := eq_true p170; replace q170 := eq_true q170) | ((with_reducible refine gate_callee (f := 19) rfl ?_); refine goesL_ (some 46) rfl rfl Tryd.func19 (by kernel_rfl) rfl #[] rfl (by (try simp only [List.map_toArray, List.map_cons, List.map_nil]); first | done | rfl | (simp only [List.length_drop, List.length_take]; rfl)) ?_; (with_reducible refine (control_None.calls  t171 t172 t173 t174 t175 t176 t177 t178 t179 t180 _ A20.out).mono ?_); rintro e w46 ⟨rfl, hb⟩; refine ⟨_, rfl, ?_⟩; have n0_ := Aside0.mk (Kd.R_below (by (with_reducible repeat (first | apply Kd.R_alloc | apply Kd.R_drewN | apply Kd.R_drew)); exact HO169.out) hb); have n1_ := Aside0.mk (below_step (by repeat (first | (with_reducible first | exact HB.out | apply below_alloc | apply pw_below_drewN | apply below_drew1) | exact HB.out)) hb); clear HO169; clear HB; have HO169 := n0_; have HB := n1_; clear n0_ n1_; (try clear hb); (try clear hb2); (try clear hk); (try clear hi)) | ((with_reducible refine gate_dst (N := 9) rfl ?_); (try (refine gate_guard (by rfl) ?_; dsimp only)); refine box_event ?hg (N := 9) ?hd (cs := #[.bool false, .bool false, .bool false, .bool false, .bool false, .bool false, .int .i64 0, .int .i64 0, .int .i64 0, .int .i64 0]) (t := 29) ?hr ?_; (case hd => rfl); (case hg => rfl); (case hr => first | (go_simp; done) | (go_simp; rfl)); intro gb181 hg w47 hbox hb; have n0_ := Aside0.mk (Kd.R_below (by (with_reducible repeat (first | apply Kd.R_alloc | apply Kd.R_drewN | apply Kd.R_drew)); exact HO169.out) hb); have n1_ := Aside0.mk (below_step (by repeat (first | (with_reducible first | exact HB.out | apply below_alloc | apply pw_below_drewN | apply below_drew1) | exact HB.out)) hb); have n2_ := Aside0.mk (hbox); have n3_ := Aside0.mk ((by rw [hg]; exact (below_size (by repeat (first | (with_reducible first | exact HB.out | apply below_alloc | apply pw_below_drewN | apply below_drew1) | exact HB.out))) : w.heap.size ≤ gb181)); have n4_ := Aside0.mk ((by rw [hg]; exact (below_size (by repeat (first | (with_reducible first | exact HB.out | apply below_alloc | apply pw_below_drewN | apply below_drew1) | exact HB.out))) : w.heap.size ≤ gb181)); clear HO169; clear HB; have HO169 := n0_; have HB := n1_; have BK181 := n2_; have GW181 := n3_; have GE181 := n4_; clear n0_ n1_ n2_ n3_ n4_; clear hb hbox hg; have hcz48_0 : w47.cell? ⟨gb181, 0, none⟩ = some (.bool false) := (blk_cell BK181.out 0).trans rfl; have hcz48_1 : w47.cell? ⟨gb181, 1, none⟩ = some (.bool false) := (blk_cell BK181.out 1).trans rfl; have hcz48_2 : w47.cell? ⟨gb181, 2, none⟩ = some (.bool false) := (blk_cell BK181.out 2).trans rfl; have hcz48_3 : w47.cell? ⟨gb181, 3, none⟩ = some (.bool false) := (blk_cell BK181.out 3).trans rfl; have hcz48_4 : w47.cell? ⟨gb181, 4, none⟩ = some (.bool false) := (blk_cell BK181.out 4).trans rfl; have hcz48_5 : w47.cell? ⟨gb181, 5, none⟩ = some (.bool false) := (blk_cell BK181.out 5).trans rfl; have hcz48_6 : w47.cell? ⟨gb181, 6, none⟩ = some (.int .i64 0) := (blk_cell BK181.out 6).trans rfl; have hcz48_7 : w47.cell? ⟨gb181, 7, none⟩ = some (.int .i64 0) := (blk_cell BK181.out 7).trans rfl; have hcz48_8 : w47.cell? ⟨gb181, 8, none⟩ = some (.int .i64 0) := (blk_cell BK181.out 8).trans rfl; have hcz48_9 : w47.cell? ⟨gb181, 9, none⟩ = some (.int .i64 0) := (blk_cell BK181.out 9).trans rfl; have hfz48_0 := blk_frozen BK181.out 0; have hfz48_1 := blk_frozen BK181.out 1; have hfz48_2 := blk_frozen BK181.out 2; have hfz48_3 := blk_frozen BK181.out 3; have hfz48_4 := blk_frozen BK181.out 4; have hfz48_5 := blk_frozen BK181.out 5; have hfz48_6 := blk_frozen BK181.out 6; have hfz48_7 := blk_frozen BK181.out 7; have hfz48_8 := blk_frozen BK181.out 8; have hfz48_9 := blk_frozen BK181.out 9))
                            have n1_ : Aside0 (((((((((((w47.setCell ⟨gb181, 0, none⟩ (.bool t171)).setCell ⟨gb181, 1, none⟩ (.bool t172)).setCell ⟨gb181, 2, none⟩ (.bool t173)).setCell ⟨gb181, 3, none⟩ (.bool t174)).setCell ⟨gb181, 4, none⟩ (.bool t175)).setCell ⟨gb181, 5, none⟩ (.bool t176)).setCell ⟨gb181, 6, none⟩ (.int .i64 t177)).setCell ⟨gb181, 7, none⟩ (.int .i64 t178)).setCell ⟨gb181, 8, none⟩ (.int .i64 t179)).setCell ⟨gb181, 9, none⟩ (.int .i64 t180)).heap[gb181]? = some (.cells #[.bool t171, .bool t172, .bool t173, .bool t174, .bool t175, .bool t176, .int .i64 t177, .int .i64 t178, .int .i64 t179, .int .i64 t180] 29 (0, 0))) := ⟨by refine blk_put (cs := #[.bool t171, .bool t172, .bool t173, .bool t174, .bool t175, .bool t176, .int .i64 t177, .int .i64 t178, .int .i64 t179, .int .i64 0]) ?_ 9 _ rfl; refine blk_put (cs := #[.bool t171, .bool t172, .bool t173, .bool t174, .bool t175, .bool t176, .int .i64 t177, .int .i64 t178, .int .i64 0, .int .i64 0]) ?_ 8 _ rfl; refine blk_put (cs := #[.bool t171, .bool t172, .bool t173, .bool t174, .bool t175, .bool t176, .int .i64 t177, .int .i64 0, .int .i64 0, .int .i64 0]) ?_ 7 _ rfl; refine blk_put (cs := #[.bool t171, .bool t172, .bool t173, .bool t174, .bool t175, .bool t176, .int .i64 0, .int .i64 0, .int .i64 0, .int .i64 0]) ?_ 6 _ rfl; refine blk_put (cs := #[.bool t171, .bool t172, .bool t173, .bool t174, .bool t175, .bool false, .int .i64 0, .int .i64 0, .int .i64 0, .int .i64 0]) ?_ 5 _ rfl; refine blk_put (cs := #[.bool t171, .bool t172, .bool t173, .bool t174, .bool false, .bool false, .int .i64 0, .int .i64 0, .int .i64 0, .int .i64 0]) ?_ 4 _ rfl; refine blk_put (cs := #[.bool t171, .bool t172, .bool t173, .bool false, .bool false, .bool false, .int .i64 0, .int .i64 0, .int .i64 0, .int .i64 0]) ?_ 3 _ rfl; refine blk_put (cs := #[.bool t171, .bool t172, .bool false, .bool false, .bool false, .bool false, .int .i64 0, .int .i64 0, .int .i64 0, .int .i64 0]) ?_ 2 _ rfl; refine blk_put (cs := #[.bool t171, .bool false, .bool false, .bool false, .bool false, .bool false, .int .i64 0, .int .i64 0, .int .i64 0, .int .i64 0]) ?_ 1 _ rfl; refine blk_put (cs := #[.bool false, .bool false, .bool false, .bool false, .bool false, .bool false, .int .i64 0, .int .i64 0, .int .i64 0, .int .i64 0]) ?_ 0 _ rfl; exact BK181.out⟩
                            have n2_ : Aside0 (Below w.heap.size w ((((((((((w47.setCell ⟨gb181, 0, none⟩ (.bool t171)).setCell ⟨gb181, 1, none⟩ (.bool t172)).setCell ⟨gb181, 2, none⟩ (.bool t173)).setCell ⟨gb181, 3, none⟩ (.bool t174)).setCell ⟨gb181, 4, none⟩ (.bool t175)).setCell ⟨gb181, 5, none⟩ (.bool t176)).setCell ⟨gb181, 6, none⟩ (.int .i64 t177)).setCell ⟨gb181, 7, none⟩ (.int .i64 t178)).setCell ⟨gb181, 8, none⟩ (.int .i64 t179)).setCell ⟨gb181, 9, none⟩ (.int .i64 t180))) := ⟨by repeat (first | (with_reducible first | exact HB.out | refine below_set ?_ GE181.out) | exact HB.out)⟩
                            have n3_ : ((((((((((w47.setCell ⟨gb181, 0, none⟩ (.bool t171)).setCell ⟨gb181, 1, none⟩ (.bool t172)).setCell ⟨gb181, 2, none⟩ (.bool t173)).setCell ⟨gb181, 3, none⟩ (.bool t174)).setCell ⟨gb181, 4, none⟩ (.bool t175)).setCell ⟨gb181, 5, none⟩ (.bool t176)).setCell ⟨gb181, 6, none⟩ (.int .i64 t177)).setCell ⟨gb181, 7, none⟩ (.int .i64 t178)).setCell ⟨gb181, 8, none⟩ (.int .i64 t179)).setCell ⟨gb181, 9, none⟩ (.int .i64 t180)).heap.size = w47.heap.size := by simp
                            clear HO169 BK181 HB
                            generalize ((((((((((w47.setCell ⟨gb181, 0, none⟩ (.bool t171)).setCell ⟨gb181, 1, none⟩ (.bool t172)).setCell ⟨gb181, 2, none⟩ (.bool t173)).setCell ⟨gb181, 3, none⟩ (.bool t174)).setCell ⟨gb181, 4, none⟩ (.bool t175)).setCell ⟨gb181, 5, none⟩ (.bool t176)).setCell ⟨gb181, 6, none⟩ (.int .i64 t177)).setCell ⟨gb181, 7, none⟩ (.int .i64 t178)).setCell ⟨gb181, 8, none⟩ (.int .i64 t179)).setCell ⟨gb181, 9, none⟩ (.int .i64 t180)) = wq at n1_ n2_ n3_ ⊢
                            (try rw [← n3_])
                            clear n3_
                            have e20 := Option.some.inj (show some (false, false, false, false, false, false, (-1 : Int), (-1 : Int), (-1 : Int), (-1 : Int)) = some (t171, t172, t173, t174, t175, t176, t177, t178, t179, t180) from A20.out)
                            simp only [Prod.mk.injEq] at e20
                            clear A20
                            obtain ⟨rfl, rfl, rfl, rfl, rfl, rfl, rfl, rfl, rfl, rfl⟩ := e20
                            obtain ⟨na, hna⟩ := Int.eq_ofNat_of_zero_le (of_decide_eq_true c18b0)
                            have h8 : na < 8 := by have h1_ := of_decide_eq_true c19b0; rw [Ny167.out] at h1_; simp at h1_; omega
                            have HNA := Aside0.mk hna
                            have HN8 := Aside0.mk h8
                            have HNE := Aside0.mk (Nat.ne_of_gt (blk_lt n1_.out))
                            clear hna h8
                            go_loopg [56] 7 (fun kq v56 w' => ∃ n : Nat, v56 = .int .i64 n ∧ Aside0 (n + kq = 7) ∧ Aside0 (w'.heap[wq.heap.size]? = some (.cells (ptrsOf gb181) 46 (0, 0))) ∧ Aside0 (w'.heap[gb181]? = some (.cells (flgCells na n) 29 (0, 0))) ∧ Aside0 (Below w.heap.size w w'))
                            case atStart => exact ⟨0, rfl, ⟨rfl⟩, ⟨heap_alloc_new _ _⟩, ⟨blk_alloc n1_.out _⟩, ⟨below_alloc n2_.out _⟩⟩
                            case round =>
                              clear n1_ n2_
                              obtain ⟨n, rfl, HI, HP, BK181, HB⟩ := hrel
                              cases gk with
                              | succ kk =>
                                have hcell : wr.cell? ⟨wq.heap.size, n, none⟩ = some (.pointer (some ⟨gb181, fldOf n, none⟩)) := by rw [Lib.cell_of_heap HP.out]; exact ptrs_at gb181 n (by have h_ := HI.out; omega)
                                have h7 : decide ((n : Int) < 7) = true := decide_eq_true (by have h_ := HI.out; omega)
                                have p7 : ((n : Int) < 7) = True := eq_true (by have h_ := HI.out; omega)
                                have p0 : (0 ≤ (n : Int)) = True := eq_true (by omega)
                                have hw1 : wrap64 ((n : Int) + 1) = ((n + 1 : Nat) : Int) := by have h_ := HI.out; unfold wrap64; omega
                                by_cases he : n = na
                                · have heb : ((n : Int) == a0) = true := beq_iff_eq.mpr (by rw [HNA.out, he])
                                  have hcz : wr.cell? ⟨gb181, fldOf n, none⟩ = some (.bool false) := by subst he; exact (blk_cell BK181.out _).trans (cells_fresh n (by have h_ := HI.out; omega))
                                  have hfz := blk_frozen BK181.out (fldOf n)
                                  have HE := Aside0.mk he
                                  clear he
                                  obtain ⟨j, hj⟩ : ∃ j, j = fldOf n := ⟨_, rfl⟩
                                  rw [← hj] at hcell hcz hfz
                                  have HJ := Aside0.mk hj
                                  clear hj
                                  go_wp2
                                  go_roundg kk
                                  case measure => omega
                                  case rel =>
                                    have he := HE.out
                                    have hj := HJ.out
                                    subst he
                                    subst hj
                                    exact ⟨n + 1, (by first | rw [hw1] | simp [hw1]), ⟨by have h_ := HI.out; omega⟩, ⟨blk_far HP.out HNE.out _⟩, ⟨blk_put BK181.out (fldOf n) _ (cells_step n (by have h_ := HI.out; omega))⟩, ⟨below_set HB.out GE181.out⟩⟩
                                · have heb : ((n : Int) == a0) = false := beq_eq_false_iff_ne.mpr (by rw [HNA.out]; omega)
                                  have HE := Aside0.mk he
                                  clear he
                                  obtain ⟨j, hj⟩ : ∃ j, j = fldOf n := ⟨_, rfl⟩
                                  rw [← hj] at hcell
                                  clear hj
                                  go_wp2
                                  go_roundg kk
                                  case measure => omega
                                  case rel => exact ⟨n + 1, (by first | rw [hw1] | simp [hw1]), ⟨by have h_ := HI.out; omega⟩, HP, ⟨by rw [cells_same na n HE.out]; exact BK181.out⟩, HB⟩
                              | zero =>
                                have n9_ : n = 7 := by have h_ := HI.out; omega
                                subst n9_
                                have h7 : decide (((7 : Nat) : Int) < 7) = false := by decide
                                have n1_ : Aside0 (wr.heap[gb181]? = some (.cells #[.bool (a0 == 0), .bool (a0 == 1), .bool (a0 == 2), .bool (a0 == 3), .bool ((wrap64 (Int.tdiv a0 2)) == 2), .bool (a0 == 6), .int .i64 (-1), .int .i64 (-1), .int .i64 (-1), .int .i64 (-1)] 29 (0, 0))) := ⟨by rw [← cells_end a0 na HNA.out HN8.out]; exact BK181.out⟩
                                clear BK181 HI HP HNA HN8 HNE
                                have BK181 := n1_
                                clear n1_
                                have HO169 := Aside0.mk True.intro
                                go_wp2
                                obtain ⟨w49, hwx⟩ : ∃ wx : World, wx = wr := ⟨_, rfl⟩
                                subst hwx
                                have n0_ := HO169
                                have n1_ := Aside0.mk (blk_drew BK181.out)
                                have n2_ := Aside0.mk (below_drew1 HB.out)
                                clear HO169
                                clear BK181
                                clear HB
                                have HO169 := n0_
                                have BK181 := n1_
                                have HB := n2_
                                clear n0_ n1_ n2_
                                refine start_ (n := 14) (S := fun w' => w'.cell? ⟨gb181, 0, none⟩ = some (.bool (a0 == 0)) ∧ w'.cell? ⟨gb181, 1, none⟩ = some (.bool (a0 == 1)) ∧ w'.cell? ⟨gb181, 2, none⟩ = some (.bool (a0 == 2)) ∧ w'.cell? ⟨gb181, 3, none⟩ = some (.bool (a0 == 3)) ∧ w'.cell? ⟨gb181, 4, none⟩ = some (.bool ((wrap64 (Int.tdiv a0 2)) == 2)) ∧ w'.cell? ⟨gb181, 5, none⟩ = some (.bool (a0 == 6)) ∧ w'.cell? ⟨gb181, 6, none⟩ = some (.int .i64 (-1)) ∧ w'.cell? ⟨gb181, 7, none⟩ = some (.int .i64 (-1)) ∧ w'.cell? ⟨gb181, 8, none⟩ = some (.int .i64 (-1)) ∧ w'.cell? ⟨gb181, 9, none⟩ = some (.int .i64 (-1))) (ds := []) #[false, false, false, false, false, false, false, false, false, false, false, false, false, false] (by kernel_rfl) rfl rfl ⟨(blk_cell BK181.out 0).trans rfl, (blk_cell BK181.out 1).trans rfl, (blk_cell BK181.out 2).trans rfl, (blk_cell BK181.out 3).trans rfl, (blk_cell BK181.out 4).trans rfl, (blk_cell BK181.out 5).trans rfl, (blk_cell BK181.out 6).trans rfl, (blk_cell BK181.out 7).trans rfl, (blk_cell BK181.out 8).trans rfl, (blk_cell BK181.out 9).trans rfl⟩ (fun hHeld => ?_); refine with_tabW pantrylaw04_ControlFlags.tab23 pantrylaw04_ControlFlags.bits23 (fun HT_ HW_ => ?_)
                                generalize w49.drew = w50 at BK181 HB hHeld ⊢
                                refine pure_ (i := 0) (N := some 77) (v := ?_) (a' := ?_) #[true, false, false, false, false, false, false, false, false, false, false, false, false, false] rfl rfl (any_of HT_.out (by kernel_rfl)) (fun _ _ _ h => h) (Or.inl ⟨by rfl, ?_⟩) ?_ ?_
                                rotate_left
                                · intro w'
                                  go_simp
                                  with_reducible rfl
                                rotate_left
                                · simp only [Act.put, List.setIfInBounds_toArray, List.set_cons_zero, List.set_cons_succ, i64_w, i32_w]
                                  rfl
                                refine take_ (i := 2) (N := some 79) (v := ?_) (a' := ?_) #[true, false, true, false, false, false, false, false, false, false, false, false, false, false] rfl rfl (take_ofW HT_.out HW_.out (by kernel_rfl)) (fun _ _ _ h => h) (Or.inl ⟨by rfl, ?_⟩) hHeld ?_ ?_
                                rotate_left
                                · rintro w' ⟨s0, s1, s2, s3, s4, s5, s6, s7, s8, s9⟩
                                  go_simp
                                  with_reducible rfl
                                rotate_left
                                · simp only [Act.put, List.setIfInBounds_toArray, List.set_cons_zero, List.set_cons_succ, i64_w, i32_w]
                                  rfl
                                refine one_ (i := 1) (N := some 78) #[true, true, true, false, false, false, false, false, false, false, false, false, false, false] rfl rfl (one_of HT_.out (by kernel_rfl)) (by decide) (fun K hK => ?_)
                                refine goes_ Tryd.func15 (by kernel_rfl) rfl #[.string (rdOf ByteArray.empty y167 a0)] (by rfl) rfl rfl (by (try simp only [List.map_toArray, List.map_cons, List.map_nil]); first | done | rfl | (simp only [List.length_drop, List.length_take]; rfl)) ?_
                                with_reducible refine (pantrylaw04_of.calls k2 (rdOf ByteArray.empty y167 a0) t203 t204 t205 t206 t207 t208 t209 t210 t211 t212 _ A38.out).mono ?_
                                rintro e w51 ⟨rfl, hb⟩
                                refine ⟨_, rfl, ?_⟩
                                have n0_ := HO169
                                have n1_ := Aside0.mk (blk_below (g := gb181) (o := .cells #[.bool (a0 == 0), .bool (a0 == 1), .bool (a0 == 2), .bool (a0 == 3), .bool ((wrap64 (Int.tdiv a0 2)) == 2), .bool (a0 == 6), .int .i64 (-1), .int .i64 (-1), .int .i64 (-1), .int .i64 (-1)] 29 (0, 0)) (by (with_reducible repeat (first | refine blk_drewN ?_ _ | refine blk_drew ?_ | refine blk_alloc ?_ _)); exact BK181.out) hb)
                                have n2_ := Aside0.mk (below_step (by repeat (first | (with_reducible first | exact HB.out | apply below_alloc | apply pw_below_drewN | apply below_drew1 | refine below_set ?_ GE181.out) | exact HB.out)) hb)
                                clear HO169
                                clear BK181
                                clear HB
                                have HO169 := n0_
                                have BK181 := n1_
                                have HB := n2_
                                clear n0_ n1_ n2_
                                (try clear hb)
                                (try clear hb2)
                                (try clear hk)
                                (try clear hi)
                                refine hK.out _ _ ⟨(blk_cell BK181.out 0).trans rfl, (blk_cell BK181.out 1).trans rfl, (blk_cell BK181.out 2).trans rfl, (blk_cell BK181.out 3).trans rfl, (blk_cell BK181.out 4).trans rfl, (blk_cell BK181.out 5).trans rfl, (blk_cell BK181.out 6).trans rfl, (blk_cell BK181.out 7).trans rfl, (blk_cell BK181.out 8).trans rfl, (blk_cell BK181.out 9).trans rfl⟩ (fun hHeld => ?_)
                                clear hK K
                                refine norm_ (a' := ?_) ?_ ?_
                                rotate_left
                                · show Act.put _ (some 78) _ = _
                                  simp only [Act.put, List.setIfInBounds_toArray, List.set_cons_zero, List.set_cons_succ, i64_w, i32_w]
                                  rfl
                                refine pure_ (i := 3) (N := some 80) (v := ?_) (a' := ?_) #[true, true, true, true, false, false, false, false, false, false, false, false, false, false] rfl rfl (any_of HT_.out (by kernel_rfl)) (fun _ _ _ h => h) (Or.inl ⟨by rfl, ?_⟩) ?_ ?_
                                rotate_left
                                · intro w'
                                  go_simp
                                  with_reducible rfl
                                rotate_left
                                · simp only [Act.put, List.setIfInBounds_toArray, List.set_cons_zero, List.set_cons_succ, i64_w, i32_w]
                                  rfl
                                refine pure_ (i := 4) (N := some 81) (v := ?_) (a' := ?_) #[true, true, true, true, true, false, false, false, false, false, false, false, false, false] rfl rfl (any_of HT_.out (by kernel_rfl)) (fun _ _ _ h => h) (Or.inl ⟨by rfl, ?_⟩) ?_ ?_
                                rotate_left
                                · intro w'
                                  go_simp
                                  with_reducible rfl
                                rotate_left
                                · simp only [Act.put, List.setIfInBounds_toArray, List.set_cons_zero, List.set_cons_succ, i64_w, i32_w]
                                  rfl
                                refine pure_ (i := 5) (N := some 82) (v := ?_) (a' := ?_) #[true, true, true, true, true, true, false, false, false, false, false, false, false, false] rfl rfl (any_of HT_.out (by kernel_rfl)) (fun _ _ _ h => h) (Or.inl ⟨by rfl, ?_⟩) ?_ ?_
                                rotate_left
                                · intro w'
                                  go_simp
                                  with_reducible rfl
                                rotate_left
                                · simp only [Act.put, List.setIfInBounds_toArray, List.set_cons_zero, List.set_cons_succ, i64_w, i32_w]
                                  rfl
                                refine pure_ (i := 6) (N := some 83) (v := ?_) (a' := ?_) #[true, true, true, true, true, true, true, false, false, false, false, false, false, false] rfl rfl (any_of HT_.out (by kernel_rfl)) (fun _ _ _ h => h) (Or.inl ⟨by rfl, ?_⟩) ?_ ?_
                                rotate_left
                                · intro w'
                                  go_simp
                                  with_reducible rfl
                                rotate_left
                                · simp only [Act.put, List.setIfInBounds_toArray, List.set_cons_zero, List.set_cons_succ, i64_w, i32_w]
                                  rfl
                                refine pure_ (i := 7) (N := some 84) (v := ?_) (a' := ?_) #[true, true, true, true, true, true, true, true, false, false, false, false, false, false] rfl rfl (any_of HT_.out (by kernel_rfl)) (fun _ _ _ h => h) (Or.inl ⟨by rfl, ?_⟩) ?_ ?_
                                rotate_left
                                · intro w'
                                  go_simp
                                  with_reducible rfl
                                rotate_left
                                · simp only [Act.put, List.setIfInBounds_toArray, List.set_cons_zero, List.set_cons_succ, i64_w, i32_w]
                                  rfl
                                refine pure_ (i := 8) (N := some 85) (v := ?_) (a' := ?_) #[true, true, true, true, true, true, true, true, true, false, false, false, false, false] rfl rfl (any_of HT_.out (by kernel_rfl)) (fun _ _ _ h => h) (Or.inl ⟨by rfl, ?_⟩) ?_ ?_
                                rotate_left
                                · intro w'
                                  go_simp
                                  with_reducible rfl
                                rotate_left
                                · simp only [Act.put, List.setIfInBounds_toArray, List.set_cons_zero, List.set_cons_succ, i64_w, i32_w]
                                  rfl
                                refine take_ (i := 10) (N := some 87) (v := ?_) (a' := ?_) #[true, true, true, true, true, true, true, true, true, false, true, false, false, false] rfl rfl (take_ofW HT_.out HW_.out (by kernel_rfl)) (fun _ _ _ h => h) (Or.inl ⟨by rfl, ?_⟩) hHeld ?_ ?_
                                rotate_left
                                · rintro w' ⟨s0, s1, s2, s3, s4, s5, s6, s7, s8, s9⟩
                                  go_simp
                                  with_reducible rfl
                                rotate_left
                                · simp only [Act.put, List.setIfInBounds_toArray, List.set_cons_zero, List.set_cons_succ, i64_w, i32_w]
                                  rfl
                                refine one_ (i := 9) (N := some 86) #[true, true, true, true, true, true, true, true, true, true, true, false, false, false] rfl rfl (one_of HT_.out (by kernel_rfl)) (by decide) (fun K hK => ?_)
                                refine goes_ Tryd.func15 (by kernel_rfl) rfl #[.string (((rdOf ByteArray.empty y167 a0) ++ (⟨#[61]⟩ : ByteArray)) ++ a2)] (by rfl) rfl rfl (by (try simp only [List.map_toArray, List.map_cons, List.map_nil]); first | done | rfl | (simp only [List.length_drop, List.length_take]; rfl)) ?_
                                with_reducible refine (pantrylaw04_of.calls k2 (((rdOf ByteArray.empty y167 a0) ++ (⟨#[61]⟩ : ByteArray)) ++ a2) t213 t214 t215 t216 t217 t218 t219 t220 t221 t222 _ A42.out).mono ?_
                                rintro e w52 ⟨rfl, hb⟩
                                refine ⟨_, rfl, ?_⟩
                                have n0_ := HO169
                                have n1_ := Aside0.mk (blk_below (g := gb181) (o := .cells #[.bool (a0 == 0), .bool (a0 == 1), .bool (a0 == 2), .bool (a0 == 3), .bool ((wrap64 (Int.tdiv a0 2)) == 2), .bool (a0 == 6), .int .i64 (-1), .int .i64 (-1), .int .i64 (-1), .int .i64 (-1)] 29 (0, 0)) (by (with_reducible repeat (first | refine blk_drewN ?_ _ | refine blk_drew ?_ | refine blk_alloc ?_ _)); exact BK181.out) hb)
                                have n2_ := Aside0.mk (below_step (by repeat (first | (with_reducible first | exact HB.out | apply below_alloc | apply pw_below_drewN | apply below_drew1 | refine below_set ?_ GE181.out) | exact HB.out)) hb)
                                clear HO169
                                clear BK181
                                clear HB
                                have HO169 := n0_
                                have BK181 := n1_
                                have HB := n2_
                                clear n0_ n1_ n2_
                                (try clear hb)
                                (try clear hb2)
                                (try clear hk)
                                (try clear hi)
                                refine hK.out _ _ ⟨(blk_cell BK181.out 0).trans rfl, (blk_cell BK181.out 1).trans rfl, (blk_cell BK181.out 2).trans rfl, (blk_cell BK181.out 3).trans rfl, (blk_cell BK181.out 4).trans rfl, (blk_cell BK181.out 5).trans rfl, (blk_cell BK181.out 6).trans rfl, (blk_cell BK181.out 7).trans rfl, (blk_cell BK181.out 8).trans rfl, (blk_cell BK181.out 9).trans rfl⟩ (fun hHeld => ?_)
                                clear hK K
                                refine norm_ (a' := ?_) ?_ ?_
                                rotate_left
                                · show Act.put _ (some 86) _ = _
                                  simp only [Act.put, List.setIfInBounds_toArray, List.set_cons_zero, List.set_cons_succ, i64_w, i32_w]
                                  rfl
                                refine pure_ (i := 11) (N := some 88) (v := ?_) (a' := ?_) #[true, true, true, true, true, true, true, true, true, true, true, true, false, false] rfl rfl (any_of HT_.out (by kernel_rfl)) (fun _ _ _ h => h) (Or.inl ⟨by rfl, ?_⟩) ?_ ?_
                                rotate_left
                                · intro w'
                                  go_simp
                                  with_reducible rfl
                                rotate_left
                                · simp only [Act.put, List.setIfInBounds_toArray, List.set_cons_zero, List.set_cons_succ, i64_w, i32_w]
                                  rfl
                                refine pure_ (i := 12) (N := some 89) (v := ?_) (a' := ?_) #[true, true, true, true, true, true, true, true, true, true, true, true, true, false] rfl rfl (any_of HT_.out (by kernel_rfl)) (fun _ _ _ h => h) (Or.inl ⟨by rfl, ?_⟩) ?_ ?_
                                rotate_left
                                · intro w'
                                  go_simp
                                  with_reducible rfl
                                rotate_left
                                · simp only [Act.put, List.setIfInBounds_toArray, List.set_cons_zero, List.set_cons_succ, i64_w, i32_w]
                                  rfl
                                refine pure_ (i := 13) (N := some 6) (v := ?_) (a' := ?_) #[true, true, true, true, true, true, true, true, true, true, true, true, true, true] rfl rfl (any_of HT_.out (by kernel_rfl)) (fun _ _ _ h => h) (Or.inl ⟨by rfl, ?_⟩) ?_ ?_
                                rotate_left
                                · intro w'
                                  go_simp
                                  with_reducible rfl
                                rotate_left
                                · simp only [Act.put, List.setIfInBounds_toArray, List.set_cons_zero, List.set_cons_succ, i64_w, i32_w]
                                  rfl
                                refine done_ (done_of HT_.out (by kernel_rfl)) ?_
                                try go_wp2
                                go_ret
                                exact ⟨by first | rfl | (generalize ByteArray.toList _ = l_; cases l_ <;> rfl) | (simp [errW_none, errW_some] <;> rfl) | (simp [*, errW_none, errW_some] <;> rfl), by repeat (first | (with_reducible first | exact HB.out | apply below_alloc | apply pw_below_drewN | apply below_drew1 | refine below_set ?_ GE181.out) | exact HB.out)⟩
                          · rw [if_neg c41] at H
                            exact absurd H (by simp)
                        · rw [if_neg c40] at H
                          exact absurd H (by simp)
                      · rw [if_neg c39] at H
                        have c39b0 : (t203 == (a0 == 0) && (t204 == (a0 == 1) && (t205 == (a0 == 2) && (t206 == (a0 == 3) && (t207 == ((wrap64 (Int.tdiv a0 2)) == 2) && (t208 == (a0 == 6) && (t209 == (-1) && (t210 == (-1) && (t211 == (-1) && (t212 == (-1))))))))))) = false := by simpa using c39
                        (try (have c39b1 : decide (t203 = (a0 == 0) && (t204 == (a0 == 1) && (t205 == (a0 == 2) && (t206 == (a0 == 3) && (t207 == ((wrap64 (Int.tdiv a0 2)) == 2) && (t208 == (a0 == 6) && (t209 == (-1) && (t210 == (-1) && (t211 == (-1) && (t212 == (-1))))))))))) = false := by simpa using c39))
                        (try (have c39b2 : (t203 == (a0 == 0) && (t204 == (a0 == 1) && (t205 == (a0 == 2) && (t206 == (a0 == 3) && (t207 == ((wrap64 (Int.tdiv a0 2)) == 2) && (t208 == (a0 == 6) && (t209 == (-1) && (t210 == (-1) && (t211 == (-1) && (t212 == (-1))))))))))) = false := by simpa using c39))
                        (try (have c39b3 : ¬ (t203 = (a0 == 0) && (t204 == (a0 == 1) && (t205 == (a0 == 2) && (t206 == (a0 == 3) && (t207 == ((wrap64 (Int.tdiv a0 2)) == 2) && (t208 == (a0 == 6) && (t209 == (-1) && (t210 == (-1) && (t211 == (-1) && (t212 == (-1))))))))))) := by simpa using c39))
                        clear c39
                        exact absurd H (by simp)
                  · rw [if_neg c19] at H
                    exact absurd H (by simp)
                · rw [if_neg c18] at H
                  exact absurd H (by simp)
  · replace c5 := Bool.eq_false_iff.mpr c5
    subst c5
    have H1 : (none) = some r := by rw [if_neg (show ¬ (false = true) by decide)] at H; exact H
    clear H
    have H := H1
    clear H1
    exact absurd H (by simp)

/-- THE ONE PURE STATEMENT of pantrylaw04_ControlFlags: yours. -/
def pantrylaw04_ControlFlags.Pure : Prop := ∀ (a0 : Int) (a1 : Bool) (a2 : ByteArray), (Lit.int .i64 a0).wf = true → a2.size ≤ 140737488351232 → ∃ k, pantrylaw04_ControlFlags.f k a0 a1 a2 = some true
theorem pantrylaw04_ControlFlags.walk (P : pantrylaw04_ControlFlags.Pure) (a0 : Int) (a1 : Bool) (a2 : ByteArray) (w : World) (w0 : (Lit.int .i64 a0).wf = true) (w2 : a2.size ≤ 140737488351232) :
    Calls Tryd.prog 6 #[.int .i64 a0, .bool a1, .string a2] w fun e w' => e = .returned (.bool true) ∧ Below w.heap.size w w' := by
  obtain ⟨k, h⟩ := P a0 a1 a2 w0 w2
  refine (pantrylaw04_ControlFlags.calls k a0 a1 a2 true w h).mono ?_
  rintro e w' ⟨rfl, hd⟩
  exact ⟨rfl, hd⟩

end Go.Proofs.YtboeabdfnijaaaaDoor.PAll
