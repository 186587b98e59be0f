-- Text by a program of this session, over what print.py prints.
import Derived.Test.YtagjgnmchgabgaaGreatDoorPAllx0
import Derived.Test.YtagjgnmchgabgaaGreatDoorPAllx8
namespace Go.Proofs.YtagjgnmchgabgaaGreatDoor.PAll
open Go.RowKit Go.Proofs.YtagjgnmchgabgaaGreatDoorW.PrintWords Go.Proofs.YtagjgnmchgabgaaGreatDoorW.PrintLast Go.Proofs.YtagjgnmchgabgaaGreatDoorW.PrintMore
attribute [local go_sem] max2_int min2_int max_two min_two max_three min_three max_four min_four   -- for this text's walks alone
set_option linter.unusedVariables false
set_option linter.unusedSimpArgs false

/-! ### pantryref11_First: function 11 -/
def pantryref11_First.j0 : Nat → List (S51) → ByteArray → Bool → ByteArray → Int → Int → Int → Bool → Bool → List ByteArray → ByteArray → ByteArray → ByteArray → Bool → Option (ByteArray)
  | 0, _, _, _, _, _, _, _, _, _, _, _, _, _, _ => none
  | k + 1, x2, x7, x20, x256000, x256001, x256002, x256003, x256004, x256005, x256006, x257000, x257001, x257002, x257003 => if x20 = true then ((pantryref11_Mark.f k x257002).bind fun t259 => (if 1 + t259.size ≤ 9223372036854775807 then (if x7.size + ((⟨#[63]⟩ : ByteArray) ++ t259).size ≤ 9223372036854775807 then (if x256004 = true then (if x257003 = true then ((pantryref11_Second.f k x2 x256006).bind fun t260 => (if (x7 ++ ((⟨#[63]⟩ : ByteArray) ++ t259)).size + t260.size ≤ 9223372036854775807 then (some ((x7 ++ ((⟨#[63]⟩ : ByteArray) ++ t259)) ++ t260)) else (none))) else (if (x7 ++ ((⟨#[63]⟩ : ByteArray) ++ t259)).size + 1 ≤ 9223372036854775807 then ((pantryref11_Second.f k x2 x256006).bind fun t261 => (if ((x7 ++ ((⟨#[63]⟩ : ByteArray) ++ t259)) ++ (⟨#[33]⟩ : ByteArray)).size + t261.size ≤ 9223372036854775807 then (some (((x7 ++ ((⟨#[63]⟩ : ByteArray) ++ t259)) ++ (⟨#[33]⟩ : ByteArray)) ++ t261)) else (none))) else (none))) else ((pantryref11_Second.f k x2 x256006).bind fun t262 => (if (x7 ++ ((⟨#[63]⟩ : ByteArray) ++ t259)).size + t262.size ≤ 9223372036854775807 then (some ((x7 ++ ((⟨#[63]⟩ : ByteArray) ++ t259)) ++ t262)) else (none)))) else (none)) else (none))) else (if x256004 = true then (if x257003 = true then ((pantryref11_Second.f k x2 x256006).bind fun t263 => (if x7.size + t263.size ≤ 9223372036854775807 then (some (x7 ++ t263)) else (none))) else (if x7.size + 1 ≤ 9223372036854775807 then ((pantryref11_Second.f k x2 x256006).bind fun t264 => (if (x7 ++ (⟨#[33]⟩ : ByteArray)).size + t264.size ≤ 9223372036854775807 then (some ((x7 ++ (⟨#[33]⟩ : ByteArray)) ++ t264)) else (none))) else (none))) else ((pantryref11_Second.f k x2 x256006).bind fun t265 => (if x7.size + t265.size ≤ 9223372036854775807 then (some (x7 ++ t265)) else (none))))
def pantryref11_First.f (k : Nat) (a0_0 : ByteArray) (a0_1 : Int) (a0_2 : Int) (a0_3 : Int) (a0_4 : Bool) (a0_5 : Bool) (l0_6 : List ByteArray) (a1_0 : ByteArray) (a1_1 : ByteArray) (a1_2 : ByteArray) (a1_3 : Bool) (l2 : List (S51)) : Option (ByteArray) := (pantryref11_Mark.f k a1_0).bind fun t257 => ((pantryref11_Mark.f k a1_1).bind fun t258 => (if t257.size + t258.size ≤ 9223372036854775807 then (if a0_4 = true then (pantryref11_First.j0 k l2 (t257 ++ t258) a1_3 a0_0 a0_1 a0_2 a0_3 a0_4 a0_5 l0_6 a1_0 a1_1 a1_2 a1_3) else (pantryref11_First.j0 k l2 (t257 ++ t258) false a0_0 a0_1 a0_2 a0_3 a0_4 a0_5 l0_6 a1_0 a1_1 a1_2 a1_3)) else (none)))
theorem pantryref11_First.mono_l : ∀ k, (∀ y0 y1 y2 y3 y4 y5 y6 y7 y8 y9 y10 y11 y12 y13, LeO (pantryref11_First.j0 k y0 y1 y2 y3 y4 y5 y6 y7 y8 y9 y10 y11 y12 y13) (pantryref11_First.j0 (k + 1) y0 y1 y2 y3 y4 y5 y6 y7 y8 y9 y10 y11 y12 y13))
  | 0 => fun _ _ _ _ _ _ _ _ _ _ _ _ _ _ r h => by simp [pantryref11_First.j0] at h
  | k + 1 => by
    have ih0 := pantryref11_First.mono_l k
    · intro y0 y1 y2 y3 y4 y5 y6 y7 y8 y9 y10 y11 y12 y13
      unfold pantryref11_First.j0
      repeat' first
      | (with_reducible exact ih0 _ _ _ _ _ _ _ _ _ _ _ _ _ _)
      | (with_reducible exact pantryref11_Mark.mono _ _)
      | (with_reducible exact pantryref11_Second.mono _ _ _)
      | (with_reducible exact LeO.refl _)
      | (with_reducible exact LeO.none _)
      | (with_reducible refine LeO.ite ?_ ?_)
      | (with_reducible refine LeO.bind ?_ (fun _ => ?_))
      | exact ih0 _ _ _ _ _ _ _ _ _ _ _ _ _ _
      | exact pantryref11_Mark.mono _ _
      | exact pantryref11_Second.mono _ _ _
      | exact LeO.none _
      | refine LeO.ite ?_ ?_
      | refine LeO.bind ?_ (fun _ => ?_)
theorem pantryref11_First.mono : ∀ a0 a1 a2 a3 a4 a5 a6 a7 a8 a9 a10 a11 k, LeO (pantryref11_First.f k a0 a1 a2 a3 a4 a5 a6 a7 a8 a9 a10 a11) (pantryref11_First.f (k + 1) a0 a1 a2 a3 a4 a5 a6 a7 a8 a9 a10 a11) := by
  intro a0 a1 a2 a3 a4 a5 a6 a7 a8 a9 a10 a11 k
  have ih0 := pantryref11_First.mono_l k
  unfold pantryref11_First.f
  repeat' first
      | (with_reducible exact ih0 _ _ _ _ _ _ _ _ _ _ _ _ _ _)
      | (with_reducible exact pantryref11_Mark.mono _ _)
      | (with_reducible exact pantryref11_Second.mono _ _ _)
      | (with_reducible exact LeO.refl _)
      | (with_reducible exact LeO.none _)
      | (with_reducible refine LeO.ite ?_ ?_)
      | (with_reducible refine LeO.bind ?_ (fun _ => ?_))
      | exact ih0 _ _ _ _ _ _ _ _ _ _ _ _ _ _
      | exact pantryref11_Mark.mono _ _
      | exact pantryref11_Second.mono _ _ _
      | exact LeO.none _
      | refine LeO.ite ?_ ?_
      | refine LeO.bind ?_ (fun _ => ?_)
def pantryref11_First.T1 : Bool × List (List Nat × List Nat) := (true, [([], []), ([0], [0]), ([1], [1]), ([], []), ([3], [3]), ([4, 2], [4]), ([2, 5], [2, 5]), ([6, 5, 0, 1, 2, 3, 4, 5, 6], [6])])
def pantryref11_First.B1 : List Nat := [0, 1, 3, 0, 8, 31, 63, 127]
theorem pantryref11_First.tab1 : rtab .any (opsOf Tryz.f11 1) = pantryref11_First.T1 := by kernel_rfl
theorem pantryref11_First.bits1 : waitsOk pantryref11_First.T1.2 pantryref11_First.B1 = true := by kernel_rfl
set_option maxHeartbeats 8000000 in
set_option maxRecDepth 100000 in
theorem pantryref11_First.calls (k : Nat) (a0_0 : ByteArray) (a0_1 : Int) (a0_2 : Int) (a0_3 : Int) (a0_4 : Bool) (a0_5 : Bool) (A0_6 : Option Addr) (c0_6 : Nat) (l0_6 : List ByteArray) (a1_0 : ByteArray) (a1_1 : ByteArray) (a1_2 : ByteArray) (a1_3 : Bool) (A2 : Option Addr) (c2 : Nat) (l2 : List (S51)) (r : ByteArray) (w : World) (hr0_6 : Kd.C Kd.string w A0_6 l0_6.length l0_6) (hc0_6 : l0_6.length ≤ c0_6) (hr2 : Kd.C k51 w A2 l2.length l2) (hc2 : l2.length ≤ c2) (h : pantryref11_First.f k a0_0 a0_1 a0_2 a0_3 a0_4 a0_5 l0_6 a1_0 a1_1 a1_2 a1_3 l2 = some r) :
    Calls Tryz.prog 11 #[.agg #[.string a0_0, .int .i64 a0_1, .int .i64 a0_2, .int .i64 a0_3, .bool a0_4, .bool a0_5, .slice A0_6 l0_6.length c0_6], .agg #[.string a1_0, .string a1_1, .string a1_2, .bool a1_3], .slice A2 l2.length c2] w fun e w' => e = .returned (.string r) ∧ Below w.heap.size w w' := by
  have hu39 := Tryz.underlying39
  have hu41 := Tryz.underlying41
  have HR0_6 := Aside0.mk hr0_6
  have HC0_6 := Aside0.mk hc0_6
  clear hr0_6 hc0_6
  have HR2 := Aside0.mk hr2
  have HC2 := Aside0.mk hc2
  clear hr2 hc2
  have HB := Aside0.mk (Below.refl w.heap.size w)
  have H : ((pantryref11_Mark.f k a1_0).bind fun t257 => ((pantryref11_Mark.f k a1_1).bind fun t258 => (if t257.size + t258.size ≤ 9223372036854775807 then (if a0_4 = true then (pantryref11_First.j0 k l2 (t257 ++ t258) a1_3 a0_0 a0_1 a0_2 a0_3 a0_4 a0_5 l0_6 a1_0 a1_1 a1_2 a1_3) else (pantryref11_First.j0 k l2 (t257 ++ t258) false a0_0 a0_1 a0_2 a0_3 a0_4 a0_5 l0_6 a1_0 a1_1 a1_2 a1_3)) else (none)))) = some r := h
  clear h
  replace H := Option.bind_eq_some_iff.mp H
  obtain ⟨t257, A40, H⟩ := H
  replace H : ((pantryref11_Mark.f k a1_1).bind fun t258 => (if t257.size + t258.size ≤ 9223372036854775807 then (if a0_4 = true then (pantryref11_First.j0 k l2 (t257 ++ t258) a1_3 a0_0 a0_1 a0_2 a0_3 a0_4 a0_5 l0_6 a1_0 a1_1 a1_2 a1_3) else (pantryref11_First.j0 k l2 (t257 ++ t258) false a0_0 a0_1 a0_2 a0_3 a0_4 a0_5 l0_6 a1_0 a1_1 a1_2 a1_3)) else (none))) = some r := H
  have A4 := Aside0.mk A40
  clear A40
  replace H := Option.bind_eq_some_iff.mp H
  obtain ⟨t258, A50, H⟩ := H
  replace H : (if t257.size + t258.size ≤ 9223372036854775807 then (if a0_4 = true then (pantryref11_First.j0 k l2 (t257 ++ t258) a1_3 a0_0 a0_1 a0_2 a0_3 a0_4 a0_5 l0_6 a1_0 a1_1 a1_2 a1_3) else (pantryref11_First.j0 k l2 (t257 ++ t258) false a0_0 a0_1 a0_2 a0_3 a0_4 a0_5 l0_6 a1_0 a1_1 a1_2 a1_3)) else (none)) = some r := H
  have A5 := Aside0.mk A50
  clear A50
  by_cases c6 : t257.size + t258.size ≤ 9223372036854775807
  · rw [if_pos c6] at H
    have c6b0 := eq_true c6
    have c6b1 : decide (t257.size + t258.size ≤ 9223372036854775807) = true := decide_eq_true c6
    try have c6b2 : (9223372036854775807 < t257.size + t258.size) = False := eq_false (Nat.not_lt.2 c6)
    have HC7 := Aside0.mk H
    clear H
    go_enter Tryz.func11, Tryz.ntmps11
    try go_wp2_with (first | ((with_reducible refine gate_dst (N := 3) rfl ?_); refine box_event ?hg (N := 3) ?hd (cs := #[.string a0_0, .int .i64 a0_1, .int .i64 a0_2, .int .i64 a0_3, .bool a0_4, .bool a0_5, .slice A0_6 l0_6.length c0_6]) (t := 39) ?hr ?_; (case hd => rfl); (case hg => rfl); (case hr => first | (go_simp; done) | (go_simp; rfl)); intro gb255 hg w8 hbox hb; have n0_ := Aside0.mk (below_step (by repeat (first | (with_reducible first | exact HB.out | apply below_alloc | apply pw_below_drewN | apply below_drew1) | exact HB.out)) hb); have n1_ := Aside0.mk (hbox); have n2_ := Aside0.mk ((by rw [hg]; exact (below_size (by repeat (first | (with_reducible first | exact HB.out | apply below_alloc | apply pw_below_drewN | apply below_drew1) | exact HB.out))) : w.heap.size ≤ gb255)); have n3_ := Aside0.mk ((by rw [hg]; exact (below_size (by repeat (first | (with_reducible first | exact HB.out | apply below_alloc | apply pw_below_drewN | apply below_drew1) | exact HB.out))) : w.heap.size ≤ gb255)); clear HB; have HB := n0_; have BK255 := n1_; have GW255 := n2_; have GE255 := n3_; clear n0_ n1_ n2_ n3_; clear hb hbox hg) | ((with_reducible refine gate_dst (N := 4) rfl ?_); refine box_event ?hg (N := 4) ?hd (cs := #[.string a1_0, .string a1_1, .string a1_2, .bool a1_3]) (t := 41) ?hr ?_; (case hd => rfl); (case hg => rfl); (case hr => first | (go_simp; done) | (go_simp; rfl)); intro gb256 hg w9 hbox hb; have n0_ := Aside0.mk (blk_below (g := gb255) (o := .cells #[.string a0_0, .int .i64 a0_1, .int .i64 a0_2, .int .i64 a0_3, .bool a0_4, .bool a0_5, .slice A0_6 l0_6.length c0_6] 39 (0, 0)) (by (with_reducible repeat (first | refine blk_drewN ?_ _ | refine blk_drew ?_ | refine blk_alloc ?_ _)); exact BK255.out) hb); have n1_ := Aside0.mk (below_step (by repeat (first | (with_reducible first | exact HB.out | apply below_alloc | apply pw_below_drewN | apply below_drew1 | refine below_set ?_ GE255.out) | exact HB.out)) hb); have n2_ := Aside0.mk (hbox); have n3_ := Aside0.mk ((by rw [hg]; exact (below_size (by repeat (first | (with_reducible first | exact HB.out | apply below_alloc | apply pw_below_drewN | apply below_drew1 | refine below_set ?_ GE255.out) | exact HB.out))) : w.heap.size ≤ gb256)); have n4_ := Aside0.mk ((by rw [hg]; exact (below_size (by repeat (first | (with_reducible first | exact HB.out | apply below_alloc | apply pw_below_drewN | apply below_drew1 | refine below_set ?_ GE255.out) | exact HB.out))) : w.heap.size ≤ gb256)); have n5_ := Aside0.mk ((by rw [hg]; exact Nat.ne_of_lt (blk_lt (g := gb255) (o := .cells #[.string a0_0, .int .i64 a0_1, .int .i64 a0_2, .int .i64 a0_3, .bool a0_4, .bool a0_5, .slice A0_6 l0_6.length c0_6] 39 (0, 0)) (by (with_reducible repeat (first | refine blk_drewN ?_ _ | refine blk_drew ?_ | refine blk_alloc ?_ _)); exact BK255.out)) : gb255 ≠ gb256)); have n6_ := Aside0.mk ((by rw [hg]; exact Nat.ne_of_gt (blk_lt (g := gb255) (o := .cells #[.string a0_0, .int .i64 a0_1, .int .i64 a0_2, .int .i64 a0_3, .bool a0_4, .bool a0_5, .slice A0_6 l0_6.length c0_6] 39 (0, 0)) (by (with_reducible repeat (first | refine blk_drewN ?_ _ | refine blk_drew ?_ | refine blk_alloc ?_ _)); exact BK255.out)) : gb256 ≠ gb255)); clear BK255; clear HB; have BK255 := n0_; have HB := n1_; have BK256 := n2_; have GW256 := n3_; have GE256 := n4_; have NB255_256 := n5_; have NB256_255 := n6_; clear n0_ n1_ n2_ n3_ n4_ n5_ n6_; clear hb hbox hg))
    have n0_ := Aside0.mk (blk_drew BK255.out)
    have n1_ := Aside0.mk (blk_drew BK256.out)
    have n2_ := Aside0.mk (below_drew1 HB.out)
    clear BK255
    clear BK256
    clear HB
    have BK255 := n0_
    have BK256 := n1_
    have HB := n2_
    clear n0_ n1_ n2_
    refine start_ (n := 8) (S := fun w' => w'.cell? ⟨gb256, 0, none⟩ = some (.string a1_0) ∧ w'.cell? ⟨gb256, 1, none⟩ = some (.string a1_1) ∧ w'.cell? ⟨gb256, 2, none⟩ = some (.string a1_2) ∧ w'.cell? ⟨gb256, 3, none⟩ = some (.bool a1_3)) (ds := []) #[false, false, false, false, false, false, false, false] (by kernel_rfl) rfl rfl ⟨(blk_cell BK256.out 0).trans rfl, (blk_cell BK256.out 1).trans rfl, (blk_cell BK256.out 2).trans rfl, (blk_cell BK256.out 3).trans rfl⟩ (fun hHeld => ?_); refine with_tabW pantryref11_First.tab1 pantryref11_First.bits1 (fun HT_ HW_ => ?_)
    generalize w9.drew = w10 at BK255 BK256 HB hHeld ⊢
    refine pure_ (i := 0) (N := some 8) (v := ?_) (a' := ?_) #[true, false, false, false, false, false, false, false] rfl rfl (any_of HT_.out (by kernel_rfl)) (fun _ _ _ h => h) (Or.inl ⟨by rfl, ?_⟩) ?_ ?_
    rotate_left
    · intro w'
      go_simp
      with_reducible rfl
    rotate_left
    · simp only [Act.put, List.setIfInBounds_toArray, List.set_cons_zero, List.set_cons_succ, i64_w, i32_w]
      rfl
    refine pure_ (i := 3) (N := some 11) (v := ?_) (a' := ?_) #[true, false, false, true, false, false, false, false] rfl rfl (any_of HT_.out (by kernel_rfl)) (fun _ _ _ h => h) (Or.inl ⟨by rfl, ?_⟩) ?_ ?_
    rotate_left
    · intro w'
      go_simp
      with_reducible rfl
    rotate_left
    · simp only [Act.put, List.setIfInBounds_toArray, List.set_cons_zero, List.set_cons_succ, i64_w, i32_w]
      rfl
    refine take_ (i := 1) (N := some 9) (v := ?_) (a' := ?_) #[true, true, false, true, false, false, false, false] rfl rfl (take_ofW HT_.out HW_.out (by kernel_rfl)) (fun _ _ _ h => h) (Or.inl ⟨by rfl, ?_⟩) hHeld ?_ ?_
    rotate_left
    · rintro w' ⟨s0, s1, s2, s3⟩
      go_simp
      with_reducible rfl
    rotate_left
    · simp only [Act.put, List.setIfInBounds_toArray, List.set_cons_zero, List.set_cons_succ, i64_w, i32_w]
      rfl
    refine take_ (i := 4) (N := some 12) (v := ?_) (a' := ?_) #[true, true, false, true, true, false, false, false] rfl rfl (take_ofW HT_.out HW_.out (by kernel_rfl)) (fun _ _ _ h => h) (Or.inl ⟨by rfl, ?_⟩) hHeld ?_ ?_
    rotate_left
    · rintro w' ⟨s0, s1, s2, s3⟩
      go_simp
      with_reducible rfl
    rotate_left
    · simp only [Act.put, List.setIfInBounds_toArray, List.set_cons_zero, List.set_cons_succ, i64_w, i32_w]
      rfl
    refine one_ (i := 2) (N := some 10) #[true, true, true, true, true, false, false, false] rfl rfl (one_of HT_.out (by kernel_rfl)) (by decide) (fun K hK => ?_)
    refine goes_ Tryz.func24 (by kernel_rfl) rfl #[.string a1_0] (by rfl) rfl rfl (by (try simp only [List.map_toArray, List.map_cons, List.map_nil]); first | done | rfl | (simp only [List.length_drop, List.length_take]; rfl)) ?_
    with_reducible refine (pantryref11_Mark.calls k a1_0 t257 _ A4.out).mono ?_
    rintro e w11 ⟨rfl, hb⟩
    refine ⟨_, rfl, ?_⟩
    have n0_ := Aside0.mk (blk_below (g := gb255) (o := .cells #[.string a0_0, .int .i64 a0_1, .int .i64 a0_2, .int .i64 a0_3, .bool a0_4, .bool a0_5, .slice A0_6 l0_6.length c0_6] 39 (0, 0)) (by (with_reducible repeat (first | refine blk_drewN ?_ _ | refine blk_drew ?_ | refine blk_alloc ?_ _)); exact BK255.out) hb)
    have n1_ := Aside0.mk (blk_below (g := gb256) (o := .cells #[.string a1_0, .string a1_1, .string a1_2, .bool a1_3] 41 (0, 0)) (by (with_reducible repeat (first | refine blk_drewN ?_ _ | refine blk_drew ?_ | refine blk_alloc ?_ _)); exact BK256.out) hb)
    have n2_ := Aside0.mk (below_step (by repeat (first | (with_reducible first | exact HB.out | apply below_alloc | apply pw_below_drewN | apply below_drew1 | refine below_set ?_ GE255.out | refine below_set ?_ GE256.out) | exact HB.out)) hb)
    clear BK255
    clear BK256
    clear HB
    have BK255 := n0_
    have BK256 := n1_
    have HB := n2_
    clear n0_ n1_ n2_
    (try clear hb)
    (try clear hb2)
    (try clear hk)
    (try clear hi)
    refine hK.out _ _ ⟨(blk_cell BK256.out 0).trans rfl, (blk_cell BK256.out 1).trans rfl, (blk_cell BK256.out 2).trans rfl, (blk_cell BK256.out 3).trans rfl⟩ (fun hHeld => ?_)
    clear hK K
    refine norm_ (a' := ?_) ?_ ?_
    rotate_left
    · show Act.put _ (some 10) _ = _
      simp only [Act.put, List.setIfInBounds_toArray, List.set_cons_zero, List.set_cons_succ, i64_w, i32_w]
      rfl
    refine one_ (i := 5) (N := some 13) #[true, true, true, true, true, true, false, false] rfl rfl (one_of HT_.out (by kernel_rfl)) (by decide) (fun K hK => ?_)
    refine goes_ Tryz.func24 (by kernel_rfl) rfl #[.string a1_1] (by rfl) rfl rfl (by (try simp only [List.map_toArray, List.map_cons, List.map_nil]); first | done | rfl | (simp only [List.length_drop, List.length_take]; rfl)) ?_
    with_reducible refine (pantryref11_Mark.calls k a1_1 t258 _ A5.out).mono ?_
    rintro e w12 ⟨rfl, hb⟩
    refine ⟨_, rfl, ?_⟩
    have n0_ := Aside0.mk (blk_below (g := gb255) (o := .cells #[.string a0_0, .int .i64 a0_1, .int .i64 a0_2, .int .i64 a0_3, .bool a0_4, .bool a0_5, .slice A0_6 l0_6.length c0_6] 39 (0, 0)) (by (with_reducible repeat (first | refine blk_drewN ?_ _ | refine blk_drew ?_ | refine blk_alloc ?_ _)); exact BK255.out) hb)
    have n1_ := Aside0.mk (blk_below (g := gb256) (o := .cells #[.string a1_0, .string a1_1, .string a1_2, .bool a1_3] 41 (0, 0)) (by (with_reducible repeat (first | refine blk_drewN ?_ _ | refine blk_drew ?_ | refine blk_alloc ?_ _)); exact BK256.out) hb)
    have n2_ := Aside0.mk (below_step (by repeat (first | (with_reducible first | exact HB.out | apply below_alloc | apply pw_below_drewN | apply below_drew1 | refine below_set ?_ GE255.out | refine below_set ?_ GE256.out) | exact HB.out)) hb)
    clear BK255
    clear BK256
    clear HB
    have BK255 := n0_
    have BK256 := n1_
    have HB := n2_
    clear n0_ n1_ n2_
    (try clear hb)
    (try clear hb2)
    (try clear hk)
    (try clear hi)
    refine hK.out _ _ ⟨(blk_cell BK256.out 0).trans rfl, (blk_cell BK256.out 1).trans rfl, (blk_cell BK256.out 2).trans rfl, (blk_cell BK256.out 3).trans rfl⟩ (fun hHeld => ?_)
    clear hK K
    refine norm_ (a' := ?_) ?_ ?_
    rotate_left
    · show Act.put _ (some 13) _ = _
      simp only [Act.put, List.setIfInBounds_toArray, List.set_cons_zero, List.set_cons_succ, i64_w, i32_w]
      rfl
    refine pure_ (i := 6) (N := some 14) (v := ?_) (a' := ?_) #[true, true, true, true, true, true, true, false] rfl rfl (any_of HT_.out (by kernel_rfl)) (fun _ _ _ h => h) (Or.inl ⟨by rfl, ?_⟩) ?_ ?_
    rotate_left
    · intro w'
      go_simp
      with_reducible rfl
    rotate_left
    · simp only [Act.put, List.setIfInBounds_toArray, List.set_cons_zero, List.set_cons_succ, i64_w, i32_w]
      rfl
    refine pure_ (i := 7) (N := some 7) (v := ?_) (a' := ?_) #[true, true, true, true, true, true, true, true] rfl rfl (any_of HT_.out (by kernel_rfl)) (fun _ _ _ h => h) (Or.inl ⟨by rfl, ?_⟩) ?_ ?_
    rotate_left
    · intro w'
      go_simp
      with_reducible rfl
    rotate_left
    · simp only [Act.put, List.setIfInBounds_toArray, List.set_cons_zero, List.set_cons_succ, i64_w, i32_w]
      rfl
    refine done_ (done_of HT_.out (by kernel_rfl)) ?_
    go_upto_region 2 with (fail)
    go_cut [20] (fun v20 wc => ∃ (kq : Nat) (x20_6 : Bool), v20 = .bool x20_6 ∧ Aside0 (pantryref11_First.j0 kq l2 (t257 ++ t258) x20_6 a0_0 a0_1 a0_2 a0_3 a0_4 a0_5 l0_6 a1_0 a1_1 a1_2 a1_3 = some r) ∧ Aside0 (kq ≤ k) ∧ Aside0 (wc.heap[gb255]? = some (.cells #[.string a0_0, .int .i64 a0_1, .int .i64 a0_2, .int .i64 a0_3, .bool a0_4, .bool a0_5, (.slice A0_6 l0_6.length c0_6)] 39 (0, 0))) ∧ Aside0 (wc.heap[gb256]? = some (.cells #[.string a1_0, .string a1_1, .string a1_2, .bool a1_3] 41 (0, 0))) ∧ Aside0 (Below w.heap.size w wc))
    case first =>
      have H := HC7.out
      clear HC7
      by_cases c13 : a0_4 = true
      · subst c13
        have H1 : (pantryref11_First.j0 k l2 (t257 ++ t258) a1_3 a0_0 a0_1 a0_2 a0_3 true a0_5 l0_6 a1_0 a1_1 a1_2 a1_3) = some r := by rw [if_pos rfl] at H; exact H
        clear H
        have H := H1
        clear H1
        have H' := Aside0.mk H
        clear H
        have hnb14 := NB255_256.out
        have hnc14 := NB256_255.out
        have hcz15_0 : w12.cell? ⟨gb255, 0, none⟩ = some (.string a0_0) := (blk_cell BK255.out 0).trans rfl
        have hcz15_1 : w12.cell? ⟨gb255, 1, none⟩ = some (.int .i64 a0_1) := (blk_cell BK255.out 1).trans rfl
        have hcz15_2 : w12.cell? ⟨gb255, 2, none⟩ = some (.int .i64 a0_2) := (blk_cell BK255.out 2).trans rfl
        have hcz15_3 : w12.cell? ⟨gb255, 3, none⟩ = some (.int .i64 a0_3) := (blk_cell BK255.out 3).trans rfl
        have hcz15_4 : w12.cell? ⟨gb255, 4, none⟩ = some (.bool true) := (blk_cell BK255.out 4).trans rfl
        have hcz15_5 : w12.cell? ⟨gb255, 5, none⟩ = some (.bool a0_5) := (blk_cell BK255.out 5).trans rfl
        have hcz15_6 : w12.cell? ⟨gb255, 6, none⟩ = some (.slice A0_6 l0_6.length c0_6) := (blk_cell BK255.out 6).trans rfl
        have hfz15_0 := blk_frozen BK255.out 0
        have hfz15_1 := blk_frozen BK255.out 1
        have hfz15_2 := blk_frozen BK255.out 2
        have hfz15_3 := blk_frozen BK255.out 3
        have hfz15_4 := blk_frozen BK255.out 4
        have hfz15_5 := blk_frozen BK255.out 5
        have hfz15_6 := blk_frozen BK255.out 6
        have hcz16_0 : w12.cell? ⟨gb256, 0, none⟩ = some (.string a1_0) := (blk_cell BK256.out 0).trans rfl
        have hcz16_1 : w12.cell? ⟨gb256, 1, none⟩ = some (.string a1_1) := (blk_cell BK256.out 1).trans rfl
        have hcz16_2 : w12.cell? ⟨gb256, 2, none⟩ = some (.string a1_2) := (blk_cell BK256.out 2).trans rfl
        have hcz16_3 : w12.cell? ⟨gb256, 3, none⟩ = some (.bool a1_3) := (blk_cell BK256.out 3).trans rfl
        have hfz16_0 := blk_frozen BK256.out 0
        have hfz16_1 := blk_frozen BK256.out 1
        have hfz16_2 := blk_frozen BK256.out 2
        have hfz16_3 := blk_frozen BK256.out 3
        go_wp2
        go_meet
        case rel => exact ⟨_, (a1_3), (by first | rfl | (simp; done) | (simp [*]; done)), H', ⟨by first | omega | exact Nat.le_refl _⟩, ⟨by (with_reducible repeat (first | refine blk_drewN ?_ _ | refine blk_drew ?_ | refine blk_alloc ?_ _)); exact BK255.out⟩, ⟨by (with_reducible repeat (first | refine blk_drewN ?_ _ | refine blk_drew ?_ | refine blk_alloc ?_ _)); exact BK256.out⟩, ⟨by repeat (first | (with_reducible first | exact HB.out | apply below_alloc | apply pw_below_drewN | apply below_drew1 | refine below_set ?_ GE255.out | refine below_set ?_ GE256.out) | exact HB.out)⟩⟩
      · replace c13 := Bool.eq_false_iff.mpr c13
        subst c13
        have H1 : (pantryref11_First.j0 k l2 (t257 ++ t258) false a0_0 a0_1 a0_2 a0_3 false a0_5 l0_6 a1_0 a1_1 a1_2 a1_3) = some r := by rw [if_neg (show ¬ (false = true) by decide)] at H; exact H
        clear H
        have H := H1
        clear H1
        have H' := Aside0.mk H
        clear H
        have hnb17 := NB255_256.out
        have hnc17 := NB256_255.out
        have hcz18_0 : w12.cell? ⟨gb255, 0, none⟩ = some (.string a0_0) := (blk_cell BK255.out 0).trans rfl
        have hcz18_1 : w12.cell? ⟨gb255, 1, none⟩ = some (.int .i64 a0_1) := (blk_cell BK255.out 1).trans rfl
        have hcz18_2 : w12.cell? ⟨gb255, 2, none⟩ = some (.int .i64 a0_2) := (blk_cell BK255.out 2).trans rfl
        have hcz18_3 : w12.cell? ⟨gb255, 3, none⟩ = some (.int .i64 a0_3) := (blk_cell BK255.out 3).trans rfl
        have hcz18_4 : w12.cell? ⟨gb255, 4, none⟩ = some (.bool false) := (blk_cell BK255.out 4).trans rfl
        have hcz18_5 : w12.cell? ⟨gb255, 5, none⟩ = some (.bool a0_5) := (blk_cell BK255.out 5).trans rfl
        have hcz18_6 : w12.cell? ⟨gb255, 6, none⟩ = some (.slice A0_6 l0_6.length c0_6) := (blk_cell BK255.out 6).trans rfl
        have hfz18_0 := blk_frozen BK255.out 0
        have hfz18_1 := blk_frozen BK255.out 1
        have hfz18_2 := blk_frozen BK255.out 2
        have hfz18_3 := blk_frozen BK255.out 3
        have hfz18_4 := blk_frozen BK255.out 4
        have hfz18_5 := blk_frozen BK255.out 5
        have hfz18_6 := blk_frozen BK255.out 6
        go_wp2
        go_meet
        case rel => exact ⟨_, (false), (by first | rfl | (simp; done) | (simp [*]; done)), H', ⟨by first | omega | exact Nat.le_refl _⟩, ⟨by (with_reducible repeat (first | refine blk_drewN ?_ _ | refine blk_drew ?_ | refine blk_alloc ?_ _)); exact BK255.out⟩, ⟨by (with_reducible repeat (first | refine blk_drewN ?_ _ | refine blk_drew ?_ | refine blk_alloc ?_ _)); exact BK256.out⟩, ⟨by repeat (first | (with_reducible first | exact HB.out | apply below_alloc | apply pw_below_drewN | apply below_drew1 | refine below_set ?_ GE255.out | refine below_set ?_ GE256.out) | exact HB.out)⟩⟩
    case rest =>
      clear HC7
      try clear c1
      try clear c2
      try clear p2
      try clear c6
      try clear c6b0
      try clear c6b1
      try clear c6b2
      try clear c11
      try clear c13
      try clear c14
      try clear c17
      try clear hcz15_0
      try clear hcz15_1
      try clear hcz15_2
      try clear hcz15_3
      try clear hcz15_4
      try clear hcz15_5
      try clear hcz15_6
      try clear hcz16_0
      try clear hcz16_1
      try clear hcz16_2
      try clear hcz16_3
      try clear hcz18_0
      try clear hcz18_1
      try clear hcz18_2
      try clear hcz18_3
      try clear hcz18_4
      try clear hcz18_5
      try clear hcz18_6
      try clear hfz15_0
      try clear hfz15_1
      try clear hfz15_2
      try clear hfz15_3
      try clear hfz15_4
      try clear hfz15_5
      try clear hfz15_6
      try clear hfz16_0
      try clear hfz16_1
      try clear hfz16_2
      try clear hfz16_3
      try clear hfz18_0
      try clear hfz18_1
      try clear hfz18_2
      try clear hfz18_3
      try clear hfz18_4
      try clear hfz18_5
      try clear hfz18_6
      obtain ⟨kq, x20_6, rfl, HA, HJ6, BK255, BK256, HB⟩ := hcut
      cases kq with
      | zero => exact absurd HA.out (by simp [pantryref11_First.j0])
      | succ kj6 =>
        have H := HA.out
        clear HA
        simp only [pantryref11_First.j0] at H
        by_cases c19 : x20_6 = true
        · subst c19
          have H1 : ((pantryref11_Mark.f kj6 a1_2).bind fun t259 => (if 1 + t259.size ≤ 9223372036854775807 then (if (t257 ++ t258).size + ((⟨#[63]⟩ : ByteArray) ++ t259).size ≤ 9223372036854775807 then (if a0_4 = true then (if a1_3 = true then ((pantryref11_Second.f kj6 l2 l0_6).bind fun t260 => (if ((t257 ++ t258) ++ ((⟨#[63]⟩ : ByteArray) ++ t259)).size + t260.size ≤ 9223372036854775807 then (some (((t257 ++ t258) ++ ((⟨#[63]⟩ : ByteArray) ++ t259)) ++ t260)) else (none))) else (if ((t257 ++ t258) ++ ((⟨#[63]⟩ : ByteArray) ++ t259)).size + 1 ≤ 9223372036854775807 then ((pantryref11_Second.f kj6 l2 l0_6).bind fun t261 => (if (((t257 ++ t258) ++ ((⟨#[63]⟩ : ByteArray) ++ t259)) ++ (⟨#[33]⟩ : ByteArray)).size + t261.size ≤ 9223372036854775807 then (some ((((t257 ++ t258) ++ ((⟨#[63]⟩ : ByteArray) ++ t259)) ++ (⟨#[33]⟩ : ByteArray)) ++ t261)) else (none))) else (none))) else ((pantryref11_Second.f kj6 l2 l0_6).bind fun t262 => (if ((t257 ++ t258) ++ ((⟨#[63]⟩ : ByteArray) ++ t259)).size + t262.size ≤ 9223372036854775807 then (some (((t257 ++ t258) ++ ((⟨#[63]⟩ : ByteArray) ++ t259)) ++ t262)) else (none)))) else (none)) else (none))) = some r := by rw [if_pos rfl] at H; exact H
          clear H
          have H := H1
          clear H1
          replace H := Option.bind_eq_some_iff.mp H
          obtain ⟨t259, A200, H⟩ := H
          replace H : (if 1 + t259.size ≤ 9223372036854775807 then (if (t257 ++ t258).size + ((⟨#[63]⟩ : ByteArray) ++ t259).size ≤ 9223372036854775807 then (if a0_4 = true then (if a1_3 = true then ((pantryref11_Second.f kj6 l2 l0_6).bind fun t260 => (if ((t257 ++ t258) ++ ((⟨#[63]⟩ : ByteArray) ++ t259)).size + t260.size ≤ 9223372036854775807 then (some (((t257 ++ t258) ++ ((⟨#[63]⟩ : ByteArray) ++ t259)) ++ t260)) else (none))) else (if ((t257 ++ t258) ++ ((⟨#[63]⟩ : ByteArray) ++ t259)).size + 1 ≤ 9223372036854775807 then ((pantryref11_Second.f kj6 l2 l0_6).bind fun t261 => (if (((t257 ++ t258) ++ ((⟨#[63]⟩ : ByteArray) ++ t259)) ++ (⟨#[33]⟩ : ByteArray)).size + t261.size ≤ 9223372036854775807 then (some ((((t257 ++ t258) ++ ((⟨#[63]⟩ : ByteArray) ++ t259)) ++ (⟨#[33]⟩ : ByteArray)) ++ t261)) else (none))) else (none))) else ((pantryref11_Second.f kj6 l2 l0_6).bind fun t262 => (if ((t257 ++ t258) ++ ((⟨#[63]⟩ : ByteArray) ++ t259)).size + t262.size ≤ 9223372036854775807 then (some (((t257 ++ t258) ++ ((⟨#[63]⟩ : ByteArray) ++ t259)) ++ t262)) else (none)))) else (none)) else (none)) = some r := H
          have A20 := Aside0.mk A200
          clear A200
          by_cases c21 : 1 + t259.size ≤ 9223372036854775807
          · rw [if_pos c21] at H
            have c21b0 := eq_true c21
            have c21b1 : decide (1 + t259.size ≤ 9223372036854775807) = true := decide_eq_true c21
            try have c21b2 : (9223372036854775807 < 1 + t259.size) = False := eq_false (Nat.not_lt.2 c21)
            by_cases c22 : (t257 ++ t258).size + ((⟨#[63]⟩ : ByteArray) ++ t259).size ≤ 9223372036854775807
            · rw [if_pos c22] at H
              have c22b0 := eq_true c22
              have c22b1 : decide ((t257 ++ t258).size + ((⟨#[63]⟩ : ByteArray) ++ t259).size ≤ 9223372036854775807) = true := decide_eq_true c22
              try have c22b2 : (9223372036854775807 < (t257 ++ t258).size + ((⟨#[63]⟩ : ByteArray) ++ t259).size) = False := eq_false (Nat.not_lt.2 c22)
              try have c22b3 : (9223372036854775807 < (t257).size + (t258).size + (1 + (t259).size)) = False := by have h_ := c22; (simp only [ByteArray.size_append] at h_); exact eq_false (Nat.not_lt.2 h_)
              try have c22b5 : (9223372036854775807 < t257.size + t258.size + (1 + t259.size)) = False := by have h_ := c22; (try simp only [ByteArray.size_append] at h_); exact eq_false (Nat.not_lt.2 h_)
              by_cases c23 : a0_4 = true
              · subst c23
                have H1 : (if a1_3 = true then ((pantryref11_Second.f kj6 l2 l0_6).bind fun t260 => (if ((t257 ++ t258) ++ ((⟨#[63]⟩ : ByteArray) ++ t259)).size + t260.size ≤ 9223372036854775807 then (some (((t257 ++ t258) ++ ((⟨#[63]⟩ : ByteArray) ++ t259)) ++ t260)) else (none))) else (if ((t257 ++ t258) ++ ((⟨#[63]⟩ : ByteArray) ++ t259)).size + 1 ≤ 9223372036854775807 then ((pantryref11_Second.f kj6 l2 l0_6).bind fun t261 => (if (((t257 ++ t258) ++ ((⟨#[63]⟩ : ByteArray) ++ t259)) ++ (⟨#[33]⟩ : ByteArray)).size + t261.size ≤ 9223372036854775807 then (some ((((t257 ++ t258) ++ ((⟨#[63]⟩ : ByteArray) ++ t259)) ++ (⟨#[33]⟩ : ByteArray)) ++ t261)) else (none))) else (none))) = some r := by rw [if_pos rfl] at H; exact H
                clear H
                have H := H1
                clear H1
                by_cases c24 : a1_3 = true
                · subst c24
                  have H1 : ((pantryref11_Second.f kj6 l2 l0_6).bind fun t260 => (if ((t257 ++ t258) ++ ((⟨#[63]⟩ : ByteArray) ++ t259)).size + t260.size ≤ 9223372036854775807 then (some (((t257 ++ t258) ++ ((⟨#[63]⟩ : ByteArray) ++ t259)) ++ t260)) else (none))) = some r := by rw [if_pos rfl] at H; exact H
                  clear H
                  have H := H1
                  clear H1
                  replace H := Option.bind_eq_some_iff.mp H
                  obtain ⟨t260, A250, H⟩ := H
                  replace H : (if ((t257 ++ t258) ++ ((⟨#[63]⟩ : ByteArray) ++ t259)).size + t260.size ≤ 9223372036854775807 then (some (((t257 ++ t258) ++ ((⟨#[63]⟩ : ByteArray) ++ t259)) ++ t260)) else (none)) = some r := H
                  have A25 := Aside0.mk A250
                  clear A250
                  by_cases c26 : ((t257 ++ t258) ++ ((⟨#[63]⟩ : ByteArray) ++ t259)).size + t260.size ≤ 9223372036854775807
                  · rw [if_pos c26] at H
                    have c26b0 := eq_true c26
                    have c26b1 : decide (((t257 ++ t258) ++ ((⟨#[63]⟩ : ByteArray) ++ t259)).size + t260.size ≤ 9223372036854775807) = true := decide_eq_true c26
                    try have c26b2 : (9223372036854775807 < ((t257 ++ t258) ++ ((⟨#[63]⟩ : ByteArray) ++ t259)).size + t260.size) = False := eq_false (Nat.not_lt.2 c26)
                    try have c26b3 : (9223372036854775807 < (t257).size + (t258).size + 1 + (t259).size + t260.size) = False := by have h_ := c26; (simp only [ByteArray.size_append] at h_); exact eq_false (Nat.not_lt.2 h_)
                    try have c26b5 : (9223372036854775807 < t257.size + t258.size + (1 + t259.size) + t260.size) = False := by have h_ := c26; (try simp only [ByteArray.size_append] at h_); exact eq_false (Nat.not_lt.2 h_)
                    obtain rfl := Option.some.inj H
                    have hnb27 := NB256_255.out
                    have hnc27 := NB255_256.out
                    have hcz28_0 : wc.cell? ⟨gb256, 0, none⟩ = some (.string a1_0) := (blk_cell BK256.out 0).trans rfl
                    have hcz28_1 : wc.cell? ⟨gb256, 1, none⟩ = some (.string a1_1) := (blk_cell BK256.out 1).trans rfl
                    have hcz28_2 : wc.cell? ⟨gb256, 2, none⟩ = some (.string a1_2) := (blk_cell BK256.out 2).trans rfl
                    have hcz28_3 : wc.cell? ⟨gb256, 3, none⟩ = some (.bool true) := (blk_cell BK256.out 3).trans rfl
                    have hfz28_0 := blk_frozen BK256.out 0
                    have hfz28_1 := blk_frozen BK256.out 1
                    have hfz28_2 := blk_frozen BK256.out 2
                    have hfz28_3 := blk_frozen BK256.out 3
                    go_wp2_with (first | ((with_reducible refine gate_callee (f := 24) rfl ?_); refine goesL_ (some 24) rfl rfl Tryz.func24 (by kernel_rfl) rfl #[.string a1_2] rfl (by (try simp only [List.map_toArray, List.map_cons, List.map_nil]); first | done | rfl | (simp only [List.length_drop, List.length_take]; rfl)) ?_; (with_reducible refine (pantryref11_Mark.calls kj6 a1_2 t259 _ A20.out).mono ?_); rintro e w29 ⟨rfl, hb⟩; refine ⟨_, rfl, ?_⟩; have n0_ := Aside0.mk (blk_below (g := gb255) (o := .cells #[.string a0_0, .int .i64 a0_1, .int .i64 a0_2, .int .i64 a0_3, .bool true, .bool a0_5, .slice A0_6 l0_6.length c0_6] 39 (0, 0)) (by (with_reducible repeat (first | refine blk_drewN ?_ _ | refine blk_drew ?_ | refine blk_alloc ?_ _)); exact BK255.out) hb); have n1_ := Aside0.mk (blk_below (g := gb256) (o := .cells #[.string a1_0, .string a1_1, .string a1_2, .bool true] 41 (0, 0)) (by (with_reducible repeat (first | refine blk_drewN ?_ _ | refine blk_drew ?_ | refine blk_alloc ?_ _)); exact BK256.out) hb); have n2_ := Aside0.mk (below_step (by repeat (first | (with_reducible first | exact HB.out | apply below_alloc | apply pw_below_drewN | apply below_drew1 | refine below_set ?_ GE255.out | refine below_set ?_ GE256.out) | exact HB.out)) hb); clear BK255; clear BK256; clear HB; have BK255 := n0_; have BK256 := n1_; have HB := n2_; clear n0_ n1_ n2_; (try clear hb); (try clear hb2); (try clear hk); (try clear hi); have hcz30_0 : w29.cell? ⟨gb255, 0, none⟩ = some (.string a0_0) := (blk_cell BK255.out 0).trans rfl; have hcz30_1 : w29.cell? ⟨gb255, 1, none⟩ = some (.int .i64 a0_1) := (blk_cell BK255.out 1).trans rfl; have hcz30_2 : w29.cell? ⟨gb255, 2, none⟩ = some (.int .i64 a0_2) := (blk_cell BK255.out 2).trans rfl; have hcz30_3 : w29.cell? ⟨gb255, 3, none⟩ = some (.int .i64 a0_3) := (blk_cell BK255.out 3).trans rfl; have hcz30_4 : w29.cell? ⟨gb255, 4, none⟩ = some (.bool true) := (blk_cell BK255.out 4).trans rfl; have hcz30_5 : w29.cell? ⟨gb255, 5, none⟩ = some (.bool a0_5) := (blk_cell BK255.out 5).trans rfl; have hcz30_6 : w29.cell? ⟨gb255, 6, none⟩ = some (.slice A0_6 l0_6.length c0_6) := (blk_cell BK255.out 6).trans rfl; have hfz30_0 := blk_frozen BK255.out 0; have hfz30_1 := blk_frozen BK255.out 1; have hfz30_2 := blk_frozen BK255.out 2; have hfz30_3 := blk_frozen BK255.out 3; have hfz30_4 := blk_frozen BK255.out 4; have hfz30_5 := blk_frozen BK255.out 5; have hfz30_6 := blk_frozen BK255.out 6; have hcz31_0 : w29.cell? ⟨gb256, 0, none⟩ = some (.string a1_0) := (blk_cell BK256.out 0).trans rfl; have hcz31_1 : w29.cell? ⟨gb256, 1, none⟩ = some (.string a1_1) := (blk_cell BK256.out 1).trans rfl; have hcz31_2 : w29.cell? ⟨gb256, 2, none⟩ = some (.string a1_2) := (blk_cell BK256.out 2).trans rfl; have hcz31_3 : w29.cell? ⟨gb256, 3, none⟩ = some (.bool true) := (blk_cell BK256.out 3).trans rfl; have hfz31_0 := blk_frozen BK256.out 0; have hfz31_1 := blk_frozen BK256.out 1; have hfz31_2 := blk_frozen BK256.out 2; have hfz31_3 := blk_frozen BK256.out 3) | ((with_reducible refine gate_callee (f := 14) rfl ?_); refine goesL_ (some 40) rfl rfl Tryz.func14 (by kernel_rfl) rfl #[.slice A2 l2.length c2, .slice A0_6 l0_6.length c0_6] rfl (by (try simp only [List.map_toArray, List.map_cons, List.map_nil]); first | done | rfl | (simp only [List.length_drop, List.length_take]; rfl)) ?_; (with_reducible refine (pantryref11_Second.calls kj6 _ _ l2 _ _ l0_6 t260 _ ?side1 ?side2 ?side3 ?side4 A25.out).mono ?_); (case side1 => repeat (first | exact (Kd.C_below HR2.out HB.out) | (with_reducible refine Kd.C_alloc ?_ _) | (with_reducible refine Kd.C_drewN ?_ _) | (with_reducible refine Kd.C_drew ?_))); (case side2 => exact HC2.out); (case side3 => repeat (first | exact (Kd.C_below HR0_6.out HB.out) | (with_reducible refine Kd.C_alloc ?_ _) | (with_reducible refine Kd.C_drewN ?_ _) | (with_reducible refine Kd.C_drew ?_))); (case side4 => exact HC0_6.out); rintro e w32 ⟨rfl, hb⟩; refine ⟨_, rfl, ?_⟩; have n0_ := Aside0.mk (blk_below (g := gb255) (o := .cells #[.string a0_0, .int .i64 a0_1, .int .i64 a0_2, .int .i64 a0_3, .bool true, .bool a0_5, .slice A0_6 l0_6.length c0_6] 39 (0, 0)) (by (with_reducible repeat (first | refine blk_drewN ?_ _ | refine blk_drew ?_ | refine blk_alloc ?_ _)); exact BK255.out) hb); have n1_ := Aside0.mk (blk_below (g := gb256) (o := .cells #[.string a1_0, .string a1_1, .string a1_2, .bool true] 41 (0, 0)) (by (with_reducible repeat (first | refine blk_drewN ?_ _ | refine blk_drew ?_ | refine blk_alloc ?_ _)); exact BK256.out) hb); have n2_ := Aside0.mk (below_step (by repeat (first | (with_reducible first | exact HB.out | apply below_alloc | apply pw_below_drewN | apply below_drew1 | refine below_set ?_ GE255.out | refine below_set ?_ GE256.out) | exact HB.out)) hb); clear BK255; clear BK256; clear HB; have BK255 := n0_; have BK256 := n1_; have HB := n2_; clear n0_ n1_ n2_; (try clear hb); (try clear hb2); (try clear hk); (try clear hi)))
                    go_ret
                    exact ⟨by first | rfl | (generalize ByteArray.toList _ = l_; cases l_ <;> rfl) | (simp [errW_none, errW_some] <;> rfl) | (simp [*, errW_none, errW_some] <;> rfl), by repeat (first | (with_reducible first | exact HB.out | apply below_alloc | apply pw_below_drewN | apply below_drew1 | refine below_set ?_ GE255.out | refine below_set ?_ GE256.out) | exact HB.out)⟩
                  · rw [if_neg c26] at H
                    exact absurd H (by simp)
                · replace c24 := Bool.eq_false_iff.mpr c24
                  subst c24
                  have H1 : (if ((t257 ++ t258) ++ ((⟨#[63]⟩ : ByteArray) ++ t259)).size + 1 ≤ 9223372036854775807 then ((pantryref11_Second.f kj6 l2 l0_6).bind fun t261 => (if (((t257 ++ t258) ++ ((⟨#[63]⟩ : ByteArray) ++ t259)) ++ (⟨#[33]⟩ : ByteArray)).size + t261.size ≤ 9223372036854775807 then (some ((((t257 ++ t258) ++ ((⟨#[63]⟩ : ByteArray) ++ t259)) ++ (⟨#[33]⟩ : ByteArray)) ++ t261)) else (none))) else (none)) = some r := by rw [if_neg (show ¬ (false = true) by decide)] at H; exact H
                  clear H
                  have H := H1
                  clear H1
                  by_cases c33 : ((t257 ++ t258) ++ ((⟨#[63]⟩ : ByteArray) ++ t259)).size + 1 ≤ 9223372036854775807
                  · rw [if_pos c33] at H
                    have c33b0 := eq_true c33
                    have c33b1 : decide (((t257 ++ t258) ++ ((⟨#[63]⟩ : ByteArray) ++ t259)).size + 1 ≤ 9223372036854775807) = true := decide_eq_true c33
                    try have c33b2 : (9223372036854775807 < ((t257 ++ t258) ++ ((⟨#[63]⟩ : ByteArray) ++ t259)).size + 1) = False := eq_false (Nat.not_lt.2 c33)
                    try have c33b3 : (9223372036854775807 < (t257).size + (t258).size + 1 + (t259).size + 1) = False := by have h_ := c33; (simp only [ByteArray.size_append] at h_); exact eq_false (Nat.not_lt.2 h_)
                    try have c33b5 : (9223372036854775807 < t257.size + t258.size + (1 + t259.size) + 1) = False := by have h_ := c33; (try simp only [ByteArray.size_append] at h_); exact eq_false (Nat.not_lt.2 h_)
                    replace H := Option.bind_eq_some_iff.mp H
                    obtain ⟨t261, A340, H⟩ := H
                    replace H : (if (((t257 ++ t258) ++ ((⟨#[63]⟩ : ByteArray) ++ t259)) ++ (⟨#[33]⟩ : ByteArray)).size + t261.size ≤ 9223372036854775807 then (some ((((t257 ++ t258) ++ ((⟨#[63]⟩ : ByteArray) ++ t259)) ++ (⟨#[33]⟩ : ByteArray)) ++ t261)) else (none)) = some r := H
                    have A34 := Aside0.mk A340
                    clear A340
                    by_cases c35 : (((t257 ++ t258) ++ ((⟨#[63]⟩ : ByteArray) ++ t259)) ++ (⟨#[33]⟩ : ByteArray)).size + t261.size ≤ 9223372036854775807
                    · rw [if_pos c35] at H
                      have c35b0 := eq_true c35
                      have c35b1 : decide ((((t257 ++ t258) ++ ((⟨#[63]⟩ : ByteArray) ++ t259)) ++ (⟨#[33]⟩ : ByteArray)).size + t261.size ≤ 9223372036854775807) = true := decide_eq_true c35
                      try have c35b2 : (9223372036854775807 < (((t257 ++ t258) ++ ((⟨#[63]⟩ : ByteArray) ++ t259)) ++ (⟨#[33]⟩ : ByteArray)).size + t261.size) = False := eq_false (Nat.not_lt.2 c35)
                      try have c35b3 : (9223372036854775807 < (t257).size + (t258).size + 1 + (t259).size + 1 + t261.size) = False := by have h_ := c35; (simp only [ByteArray.size_append] at h_); exact eq_false (Nat.not_lt.2 h_)
                      try have c35b5 : (9223372036854775807 < t257.size + t258.size + (1 + t259.size) + 1 + t261.size) = False := by have h_ := c35; (try simp only [ByteArray.size_append] at h_); exact eq_false (Nat.not_lt.2 h_)
                      obtain rfl := Option.some.inj H
                      have hnb36 := NB256_255.out
                      have hnc36 := NB255_256.out
                      have hcz37_0 : wc.cell? ⟨gb256, 0, none⟩ = some (.string a1_0) := (blk_cell BK256.out 0).trans rfl
                      have hcz37_1 : wc.cell? ⟨gb256, 1, none⟩ = some (.string a1_1) := (blk_cell BK256.out 1).trans rfl
                      have hcz37_2 : wc.cell? ⟨gb256, 2, none⟩ = some (.string a1_2) := (blk_cell BK256.out 2).trans rfl
                      have hcz37_3 : wc.cell? ⟨gb256, 3, none⟩ = some (.bool false) := (blk_cell BK256.out 3).trans rfl
                      have hfz37_0 := blk_frozen BK256.out 0
                      have hfz37_1 := blk_frozen BK256.out 1
                      have hfz37_2 := blk_frozen BK256.out 2
                      have hfz37_3 := blk_frozen BK256.out 3
                      go_wp2_with (first | ((with_reducible refine gate_callee (f := 24) rfl ?_); refine goesL_ (some 24) rfl rfl Tryz.func24 (by kernel_rfl) rfl #[.string a1_2] rfl (by (try simp only [List.map_toArray, List.map_cons, List.map_nil]); first | done | rfl | (simp only [List.length_drop, List.length_take]; rfl)) ?_; (with_reducible refine (pantryref11_Mark.calls kj6 a1_2 t259 _ A20.out).mono ?_); rintro e w38 ⟨rfl, hb⟩; refine ⟨_, rfl, ?_⟩; have n0_ := Aside0.mk (blk_below (g := gb255) (o := .cells #[.string a0_0, .int .i64 a0_1, .int .i64 a0_2, .int .i64 a0_3, .bool true, .bool a0_5, .slice A0_6 l0_6.length c0_6] 39 (0, 0)) (by (with_reducible repeat (first | refine blk_drewN ?_ _ | refine blk_drew ?_ | refine blk_alloc ?_ _)); exact BK255.out) hb); have n1_ := Aside0.mk (blk_below (g := gb256) (o := .cells #[.string a1_0, .string a1_1, .string a1_2, .bool false] 41 (0, 0)) (by (with_reducible repeat (first | refine blk_drewN ?_ _ | refine blk_drew ?_ | refine blk_alloc ?_ _)); exact BK256.out) hb); have n2_ := Aside0.mk (below_step (by repeat (first | (with_reducible first | exact HB.out | apply below_alloc | apply pw_below_drewN | apply below_drew1 | refine below_set ?_ GE255.out | refine below_set ?_ GE256.out) | exact HB.out)) hb); clear BK255; clear BK256; clear HB; have BK255 := n0_; have BK256 := n1_; have HB := n2_; clear n0_ n1_ n2_; (try clear hb); (try clear hb2); (try clear hk); (try clear hi); have hcz39_0 : w38.cell? ⟨gb255, 0, none⟩ = some (.string a0_0) := (blk_cell BK255.out 0).trans rfl; have hcz39_1 : w38.cell? ⟨gb255, 1, none⟩ = some (.int .i64 a0_1) := (blk_cell BK255.out 1).trans rfl; have hcz39_2 : w38.cell? ⟨gb255, 2, none⟩ = some (.int .i64 a0_2) := (blk_cell BK255.out 2).trans rfl; have hcz39_3 : w38.cell? ⟨gb255, 3, none⟩ = some (.int .i64 a0_3) := (blk_cell BK255.out 3).trans rfl; have hcz39_4 : w38.cell? ⟨gb255, 4, none⟩ = some (.bool true) := (blk_cell BK255.out 4).trans rfl; have hcz39_5 : w38.cell? ⟨gb255, 5, none⟩ = some (.bool a0_5) := (blk_cell BK255.out 5).trans rfl; have hcz39_6 : w38.cell? ⟨gb255, 6, none⟩ = some (.slice A0_6 l0_6.length c0_6) := (blk_cell BK255.out 6).trans rfl; have hfz39_0 := blk_frozen BK255.out 0; have hfz39_1 := blk_frozen BK255.out 1; have hfz39_2 := blk_frozen BK255.out 2; have hfz39_3 := blk_frozen BK255.out 3; have hfz39_4 := blk_frozen BK255.out 4; have hfz39_5 := blk_frozen BK255.out 5; have hfz39_6 := blk_frozen BK255.out 6; have hcz40_0 : w38.cell? ⟨gb256, 0, none⟩ = some (.string a1_0) := (blk_cell BK256.out 0).trans rfl; have hcz40_1 : w38.cell? ⟨gb256, 1, none⟩ = some (.string a1_1) := (blk_cell BK256.out 1).trans rfl; have hcz40_2 : w38.cell? ⟨gb256, 2, none⟩ = some (.string a1_2) := (blk_cell BK256.out 2).trans rfl; have hcz40_3 : w38.cell? ⟨gb256, 3, none⟩ = some (.bool false) := (blk_cell BK256.out 3).trans rfl; have hfz40_0 := blk_frozen BK256.out 0; have hfz40_1 := blk_frozen BK256.out 1; have hfz40_2 := blk_frozen BK256.out 2; have hfz40_3 := blk_frozen BK256.out 3) | ((with_reducible refine gate_callee (f := 14) rfl ?_); refine goesL_ (some 40) rfl rfl Tryz.func14 (by kernel_rfl) rfl #[.slice A2 l2.length c2, .slice A0_6 l0_6.length c0_6] rfl (by (try simp only [List.map_toArray, List.map_cons, List.map_nil]); first | done | rfl | (simp only [List.length_drop, List.length_take]; rfl)) ?_; (with_reducible refine (pantryref11_Second.calls kj6 _ _ l2 _ _ l0_6 t261 _ ?side1 ?side2 ?side3 ?side4 A34.out).mono ?_); (case side1 => repeat (first | exact (Kd.C_below HR2.out HB.out) | (with_reducible refine Kd.C_alloc ?_ _) | (with_reducible refine Kd.C_drewN ?_ _) | (with_reducible refine Kd.C_drew ?_))); (case side2 => exact HC2.out); (case side3 => repeat (first | exact (Kd.C_below HR0_6.out HB.out) | (with_reducible refine Kd.C_alloc ?_ _) | (with_reducible refine Kd.C_drewN ?_ _) | (with_reducible refine Kd.C_drew ?_))); (case side4 => exact HC0_6.out); rintro e w41 ⟨rfl, hb⟩; refine ⟨_, rfl, ?_⟩; have n0_ := Aside0.mk (blk_below (g := gb255) (o := .cells #[.string a0_0, .int .i64 a0_1, .int .i64 a0_2, .int .i64 a0_3, .bool true, .bool a0_5, .slice A0_6 l0_6.length c0_6] 39 (0, 0)) (by (with_reducible repeat (first | refine blk_drewN ?_ _ | refine blk_drew ?_ | refine blk_alloc ?_ _)); exact BK255.out) hb); have n1_ := Aside0.mk (blk_below (g := gb256) (o := .cells #[.string a1_0, .string a1_1, .string a1_2, .bool false] 41 (0, 0)) (by (with_reducible repeat (first | refine blk_drewN ?_ _ | refine blk_drew ?_ | refine blk_alloc ?_ _)); exact BK256.out) hb); have n2_ := Aside0.mk (below_step (by repeat (first | (with_reducible first | exact HB.out | apply below_alloc | apply pw_below_drewN | apply below_drew1 | refine below_set ?_ GE255.out | refine below_set ?_ GE256.out) | exact HB.out)) hb); clear BK255; clear BK256; clear HB; have BK255 := n0_; have BK256 := n1_; have HB := n2_; clear n0_ n1_ n2_; (try clear hb); (try clear hb2); (try clear hk); (try clear hi)))
                      go_ret
                      exact ⟨by first | rfl | (generalize ByteArray.toList _ = l_; cases l_ <;> rfl) | (simp [errW_none, errW_some] <;> rfl) | (simp [*, errW_none, errW_some] <;> rfl), by repeat (first | (with_reducible first | exact HB.out | apply below_alloc | apply pw_below_drewN | apply below_drew1 | refine below_set ?_ GE255.out | refine below_set ?_ GE256.out) | exact HB.out)⟩
                    · rw [if_neg c35] at H
                      exact absurd H (by simp)
                  · rw [if_neg c33] at H
                    exact absurd H (by simp)
              · replace c23 := Bool.eq_false_iff.mpr c23
                subst c23
                have H1 : ((pantryref11_Second.f kj6 l2 l0_6).bind fun t262 => (if ((t257 ++ t258) ++ ((⟨#[63]⟩ : ByteArray) ++ t259)).size + t262.size ≤ 9223372036854775807 then (some (((t257 ++ t258) ++ ((⟨#[63]⟩ : ByteArray) ++ t259)) ++ t262)) else (none))) = some r := by rw [if_neg (show ¬ (false = true) by decide)] at H; exact H
                clear H
                have H := H1
                clear H1
                replace H := Option.bind_eq_some_iff.mp H
                obtain ⟨t262, A420, H⟩ := H
                replace H : (if ((t257 ++ t258) ++ ((⟨#[63]⟩ : ByteArray) ++ t259)).size + t262.size ≤ 9223372036854775807 then (some (((t257 ++ t258) ++ ((⟨#[63]⟩ : ByteArray) ++ t259)) ++ t262)) else (none)) = some r := H
                have A42 := Aside0.mk A420
                clear A420
                by_cases c43 : ((t257 ++ t258) ++ ((⟨#[63]⟩ : ByteArray) ++ t259)).size + t262.size ≤ 9223372036854775807
                · rw [if_pos c43] at H
                  have c43b0 := eq_true c43
                  have c43b1 : decide (((t257 ++ t258) ++ ((⟨#[63]⟩ : ByteArray) ++ t259)).size + t262.size ≤ 9223372036854775807) = true := decide_eq_true c43
                  try have c43b2 : (9223372036854775807 < ((t257 ++ t258) ++ ((⟨#[63]⟩ : ByteArray) ++ t259)).size + t262.size) = False := eq_false (Nat.not_lt.2 c43)
                  try have c43b3 : (9223372036854775807 < (t257).size + (t258).size + 1 + (t259).size + t262.size) = False := by have h_ := c43; (simp only [ByteArray.size_append] at h_); exact eq_false (Nat.not_lt.2 h_)
                  try have c43b5 : (9223372036854775807 < t257.size + t258.size + (1 + t259.size) + t262.size) = False := by have h_ := c43; (try simp only [ByteArray.size_append] at h_); exact eq_false (Nat.not_lt.2 h_)
                  obtain rfl := Option.some.inj H
                  have hnb44 := NB256_255.out
                  have hnc44 := NB255_256.out
                  have hcz45_0 : wc.cell? ⟨gb256, 0, none⟩ = some (.string a1_0) := (blk_cell BK256.out 0).trans rfl
                  have hcz45_1 : wc.cell? ⟨gb256, 1, none⟩ = some (.string a1_1) := (blk_cell BK256.out 1).trans rfl
                  have hcz45_2 : wc.cell? ⟨gb256, 2, none⟩ = some (.string a1_2) := (blk_cell BK256.out 2).trans rfl
                  have hcz45_3 : wc.cell? ⟨gb256, 3, none⟩ = some (.bool a1_3) := (blk_cell BK256.out 3).trans rfl
                  have hfz45_0 := blk_frozen BK256.out 0
                  have hfz45_1 := blk_frozen BK256.out 1
                  have hfz45_2 := blk_frozen BK256.out 2
                  have hfz45_3 := blk_frozen BK256.out 3
                  go_wp2_with (first | ((with_reducible refine gate_callee (f := 24) rfl ?_); refine goesL_ (some 24) rfl rfl Tryz.func24 (by kernel_rfl) rfl #[.string a1_2] rfl (by (try simp only [List.map_toArray, List.map_cons, List.map_nil]); first | done | rfl | (simp only [List.length_drop, List.length_take]; rfl)) ?_; (with_reducible refine (pantryref11_Mark.calls kj6 a1_2 t259 _ A20.out).mono ?_); rintro e w46 ⟨rfl, hb⟩; refine ⟨_, rfl, ?_⟩; have n0_ := Aside0.mk (blk_below (g := gb255) (o := .cells #[.string a0_0, .int .i64 a0_1, .int .i64 a0_2, .int .i64 a0_3, .bool false, .bool a0_5, .slice A0_6 l0_6.length c0_6] 39 (0, 0)) (by (with_reducible repeat (first | refine blk_drewN ?_ _ | refine blk_drew ?_ | refine blk_alloc ?_ _)); exact BK255.out) hb); have n1_ := Aside0.mk (blk_below (g := gb256) (o := .cells #[.string a1_0, .string a1_1, .string a1_2, .bool a1_3] 41 (0, 0)) (by (with_reducible repeat (first | refine blk_drewN ?_ _ | refine blk_drew ?_ | refine blk_alloc ?_ _)); exact BK256.out) hb); have n2_ := Aside0.mk (below_step (by repeat (first | (with_reducible first | exact HB.out | apply below_alloc | apply pw_below_drewN | apply below_drew1 | refine below_set ?_ GE255.out | refine below_set ?_ GE256.out) | exact HB.out)) hb); clear BK255; clear BK256; clear HB; have BK255 := n0_; have BK256 := n1_; have HB := n2_; clear n0_ n1_ n2_; (try clear hb); (try clear hb2); (try clear hk); (try clear hi); have hcz47_0 : w46.cell? ⟨gb255, 0, none⟩ = some (.string a0_0) := (blk_cell BK255.out 0).trans rfl; have hcz47_1 : w46.cell? ⟨gb255, 1, none⟩ = some (.int .i64 a0_1) := (blk_cell BK255.out 1).trans rfl; have hcz47_2 : w46.cell? ⟨gb255, 2, none⟩ = some (.int .i64 a0_2) := (blk_cell BK255.out 2).trans rfl; have hcz47_3 : w46.cell? ⟨gb255, 3, none⟩ = some (.int .i64 a0_3) := (blk_cell BK255.out 3).trans rfl; have hcz47_4 : w46.cell? ⟨gb255, 4, none⟩ = some (.bool false) := (blk_cell BK255.out 4).trans rfl; have hcz47_5 : w46.cell? ⟨gb255, 5, none⟩ = some (.bool a0_5) := (blk_cell BK255.out 5).trans rfl; have hcz47_6 : w46.cell? ⟨gb255, 6, none⟩ = some (.slice A0_6 l0_6.length c0_6) := (blk_cell BK255.out 6).trans rfl; have hfz47_0 := blk_frozen BK255.out 0; have hfz47_1 := blk_frozen BK255.out 1; have hfz47_2 := blk_frozen BK255.out 2; have hfz47_3 := blk_frozen BK255.out 3; have hfz47_4 := blk_frozen BK255.out 4; have hfz47_5 := blk_frozen BK255.out 5; have hfz47_6 := blk_frozen BK255.out 6) | ((with_reducible refine gate_callee (f := 14) rfl ?_); refine goesL_ (some 40) rfl rfl Tryz.func14 (by kernel_rfl) rfl #[.slice A2 l2.length c2, .slice A0_6 l0_6.length c0_6] rfl (by (try simp only [List.map_toArray, List.map_cons, List.map_nil]); first | done | rfl | (simp only [List.length_drop, List.length_take]; rfl)) ?_; (with_reducible refine (pantryref11_Second.calls kj6 _ _ l2 _ _ l0_6 t262 _ ?side1 ?side2 ?side3 ?side4 A42.out).mono ?_); (case side1 => repeat (first | exact (Kd.C_below HR2.out HB.out) | (with_reducible refine Kd.C_alloc ?_ _) | (with_reducible refine Kd.C_drewN ?_ _) | (with_reducible refine Kd.C_drew ?_))); (case side2 => exact HC2.out); (case side3 => repeat (first | exact (Kd.C_below HR0_6.out HB.out) | (with_reducible refine Kd.C_alloc ?_ _) | (with_reducible refine Kd.C_drewN ?_ _) | (with_reducible refine Kd.C_drew ?_))); (case side4 => exact HC0_6.out); rintro e w48 ⟨rfl, hb⟩; refine ⟨_, rfl, ?_⟩; have n0_ := Aside0.mk (blk_below (g := gb255) (o := .cells #[.string a0_0, .int .i64 a0_1, .int .i64 a0_2, .int .i64 a0_3, .bool false, .bool a0_5, .slice A0_6 l0_6.length c0_6] 39 (0, 0)) (by (with_reducible repeat (first | refine blk_drewN ?_ _ | refine blk_drew ?_ | refine blk_alloc ?_ _)); exact BK255.out) hb); have n1_ := Aside0.mk (blk_below (g := gb256) (o := .cells #[.string a1_0, .string a1_1, .string a1_2, .bool a1_3] 41 (0, 0)) (by (with_reducible repeat (first | refine blk_drewN ?_ _ | refine blk_drew ?_ | refine blk_alloc ?_ _)); exact BK256.out) hb); have n2_ := Aside0.mk (below_step (by repeat (first | (with_reducible first | exact HB.out | apply below_alloc | apply pw_below_drewN | apply below_drew1 | refine below_set ?_ GE255.out | refine below_set ?_ GE256.out) | exact HB.out)) hb); clear BK255; clear BK256; clear HB; have BK255 := n0_; have BK256 := n1_; have HB := n2_; clear n0_ n1_ n2_; (try clear hb); (try clear hb2); (try clear hk); (try clear hi)))
                  go_ret
                  exact ⟨by first | rfl | (generalize ByteArray.toList _ = l_; cases l_ <;> rfl) | (simp [errW_none, errW_some] <;> rfl) | (simp [*, errW_none, errW_some] <;> rfl), by repeat (first | (with_reducible first | exact HB.out | apply below_alloc | apply pw_below_drewN | apply below_drew1 | refine below_set ?_ GE255.out | refine below_set ?_ GE256.out) | exact HB.out)⟩
                · rw [if_neg c43] at H
                  exact absurd H (by simp)
            · rw [if_neg c22] at H
              exact absurd H (by simp)
          · rw [if_neg c21] at H
            exact absurd H (by simp)
        · replace c19 := Bool.eq_false_iff.mpr c19
          subst c19
          have H1 : (if a0_4 = true then (if a1_3 = true then ((pantryref11_Second.f kj6 l2 l0_6).bind fun t263 => (if (t257 ++ t258).size + t263.size ≤ 9223372036854775807 then (some ((t257 ++ t258) ++ t263)) else (none))) else (if (t257 ++ t258).size + 1 ≤ 9223372036854775807 then ((pantryref11_Second.f kj6 l2 l0_6).bind fun t264 => (if ((t257 ++ t258) ++ (⟨#[33]⟩ : ByteArray)).size + t264.size ≤ 9223372036854775807 then (some (((t257 ++ t258) ++ (⟨#[33]⟩ : ByteArray)) ++ t264)) else (none))) else (none))) else ((pantryref11_Second.f kj6 l2 l0_6).bind fun t265 => (if (t257 ++ t258).size + t265.size ≤ 9223372036854775807 then (some ((t257 ++ t258) ++ t265)) else (none)))) = some r := by rw [if_neg (show ¬ (false = true) by decide)] at H; exact H
          clear H
          have H := H1
          clear H1
          by_cases c49 : a0_4 = true
          · subst c49
            have H1 : (if a1_3 = true then ((pantryref11_Second.f kj6 l2 l0_6).bind fun t263 => (if (t257 ++ t258).size + t263.size ≤ 9223372036854775807 then (some ((t257 ++ t258) ++ t263)) else (none))) else (if (t257 ++ t258).size + 1 ≤ 9223372036854775807 then ((pantryref11_Second.f kj6 l2 l0_6).bind fun t264 => (if ((t257 ++ t258) ++ (⟨#[33]⟩ : ByteArray)).size + t264.size ≤ 9223372036854775807 then (some (((t257 ++ t258) ++ (⟨#[33]⟩ : ByteArray)) ++ t264)) else (none))) else (none))) = some r := by rw [if_pos rfl] at H; exact H
            clear H
            have H := H1
            clear H1
            by_cases c50 : a1_3 = true
            · subst c50
              have H1 : ((pantryref11_Second.f kj6 l2 l0_6).bind fun t263 => (if (t257 ++ t258).size + t263.size ≤ 9223372036854775807 then (some ((t257 ++ t258) ++ t263)) else (none))) = some r := by rw [if_pos rfl] at H; exact H
              clear H
              have H := H1
              clear H1
              replace H := Option.bind_eq_some_iff.mp H
              obtain ⟨t263, A510, H⟩ := H
              replace H : (if (t257 ++ t258).size + t263.size ≤ 9223372036854775807 then (some ((t257 ++ t258) ++ t263)) else (none)) = some r := H
              have A51 := Aside0.mk A510
              clear A510
              by_cases c52 : (t257 ++ t258).size + t263.size ≤ 9223372036854775807
              · rw [if_pos c52] at H
                have c52b0 := eq_true c52
                have c52b1 : decide ((t257 ++ t258).size + t263.size ≤ 9223372036854775807) = true := decide_eq_true c52
                try have c52b2 : (9223372036854775807 < (t257 ++ t258).size + t263.size) = False := eq_false (Nat.not_lt.2 c52)
                try have c52b3 : (9223372036854775807 < (t257).size + (t258).size + t263.size) = False := by have h_ := c52; (simp only [ByteArray.size_append] at h_); exact eq_false (Nat.not_lt.2 h_)
                obtain rfl := Option.some.inj H
                have hnb53 := NB255_256.out
                have hnc53 := NB256_255.out
                have hcz54_0 : wc.cell? ⟨gb255, 0, none⟩ = some (.string a0_0) := (blk_cell BK255.out 0).trans rfl
                have hcz54_1 : wc.cell? ⟨gb255, 1, none⟩ = some (.int .i64 a0_1) := (blk_cell BK255.out 1).trans rfl
                have hcz54_2 : wc.cell? ⟨gb255, 2, none⟩ = some (.int .i64 a0_2) := (blk_cell BK255.out 2).trans rfl
                have hcz54_3 : wc.cell? ⟨gb255, 3, none⟩ = some (.int .i64 a0_3) := (blk_cell BK255.out 3).trans rfl
                have hcz54_4 : wc.cell? ⟨gb255, 4, none⟩ = some (.bool true) := (blk_cell BK255.out 4).trans rfl
                have hcz54_5 : wc.cell? ⟨gb255, 5, none⟩ = some (.bool a0_5) := (blk_cell BK255.out 5).trans rfl
                have hcz54_6 : wc.cell? ⟨gb255, 6, none⟩ = some (.slice A0_6 l0_6.length c0_6) := (blk_cell BK255.out 6).trans rfl
                have hfz54_0 := blk_frozen BK255.out 0
                have hfz54_1 := blk_frozen BK255.out 1
                have hfz54_2 := blk_frozen BK255.out 2
                have hfz54_3 := blk_frozen BK255.out 3
                have hfz54_4 := blk_frozen BK255.out 4
                have hfz54_5 := blk_frozen BK255.out 5
                have hfz54_6 := blk_frozen BK255.out 6
                have hcz55_0 : wc.cell? ⟨gb256, 0, none⟩ = some (.string a1_0) := (blk_cell BK256.out 0).trans rfl
                have hcz55_1 : wc.cell? ⟨gb256, 1, none⟩ = some (.string a1_1) := (blk_cell BK256.out 1).trans rfl
                have hcz55_2 : wc.cell? ⟨gb256, 2, none⟩ = some (.string a1_2) := (blk_cell BK256.out 2).trans rfl
                have hcz55_3 : wc.cell? ⟨gb256, 3, none⟩ = some (.bool true) := (blk_cell BK256.out 3).trans rfl
                have hfz55_0 := blk_frozen BK256.out 0
                have hfz55_1 := blk_frozen BK256.out 1
                have hfz55_2 := blk_frozen BK256.out 2
                have hfz55_3 := blk_frozen BK256.out 3
                go_wp2_with (first | ((with_reducible refine gate_callee (f := 14) rfl ?_); refine goesL_ (some 40) rfl rfl Tryz.func14 (by kernel_rfl) rfl #[.slice A2 l2.length c2, .slice A0_6 l0_6.length c0_6] rfl (by (try simp only [List.map_toArray, List.map_cons, List.map_nil]); first | done | rfl | (simp only [List.length_drop, List.length_take]; rfl)) ?_; (with_reducible refine (pantryref11_Second.calls kj6 _ _ l2 _ _ l0_6 t263 _ ?side1 ?side2 ?side3 ?side4 A51.out).mono ?_); (case side1 => repeat (first | exact (Kd.C_below HR2.out HB.out) | (with_reducible refine Kd.C_alloc ?_ _) | (with_reducible refine Kd.C_drewN ?_ _) | (with_reducible refine Kd.C_drew ?_))); (case side2 => exact HC2.out); (case side3 => repeat (first | exact (Kd.C_below HR0_6.out HB.out) | (with_reducible refine Kd.C_alloc ?_ _) | (with_reducible refine Kd.C_drewN ?_ _) | (with_reducible refine Kd.C_drew ?_))); (case side4 => exact HC0_6.out); rintro e w56 ⟨rfl, hb⟩; refine ⟨_, rfl, ?_⟩; have n0_ := Aside0.mk (blk_below (g := gb255) (o := .cells #[.string a0_0, .int .i64 a0_1, .int .i64 a0_2, .int .i64 a0_3, .bool true, .bool a0_5, .slice A0_6 l0_6.length c0_6] 39 (0, 0)) (by (with_reducible repeat (first | refine blk_drewN ?_ _ | refine blk_drew ?_ | refine blk_alloc ?_ _)); exact BK255.out) hb); have n1_ := Aside0.mk (blk_below (g := gb256) (o := .cells #[.string a1_0, .string a1_1, .string a1_2, .bool true] 41 (0, 0)) (by (with_reducible repeat (first | refine blk_drewN ?_ _ | refine blk_drew ?_ | refine blk_alloc ?_ _)); exact BK256.out) hb); have n2_ := Aside0.mk (below_step (by repeat (first | (with_reducible first | exact HB.out | apply below_alloc | apply pw_below_drewN | apply below_drew1 | refine below_set ?_ GE255.out | refine below_set ?_ GE256.out) | exact HB.out)) hb); clear BK255; clear BK256; clear HB; have BK255 := n0_; have BK256 := n1_; have HB := n2_; clear n0_ n1_ n2_; (try clear hb); (try clear hb2); (try clear hk); (try clear hi)))
                go_ret
                exact ⟨by first | rfl | (generalize ByteArray.toList _ = l_; cases l_ <;> rfl) | (simp [errW_none, errW_some] <;> rfl) | (simp [*, errW_none, errW_some] <;> rfl), by repeat (first | (with_reducible first | exact HB.out | apply below_alloc | apply pw_below_drewN | apply below_drew1 | refine below_set ?_ GE255.out | refine below_set ?_ GE256.out) | exact HB.out)⟩
              · rw [if_neg c52] at H
                exact absurd H (by simp)
            · replace c50 := Bool.eq_false_iff.mpr c50
              subst c50
              have H1 : (if (t257 ++ t258).size + 1 ≤ 9223372036854775807 then ((pantryref11_Second.f kj6 l2 l0_6).bind fun t264 => (if ((t257 ++ t258) ++ (⟨#[33]⟩ : ByteArray)).size + t264.size ≤ 9223372036854775807 then (some (((t257 ++ t258) ++ (⟨#[33]⟩ : ByteArray)) ++ t264)) else (none))) else (none)) = some r := by rw [if_neg (show ¬ (false = true) by decide)] at H; exact H
              clear H
              have H := H1
              clear H1
              by_cases c57 : (t257 ++ t258).size + 1 ≤ 9223372036854775807
              · rw [if_pos c57] at H
                have c57b0 := eq_true c57
                have c57b1 : decide ((t257 ++ t258).size + 1 ≤ 9223372036854775807) = true := decide_eq_true c57
                try have c57b2 : (9223372036854775807 < (t257 ++ t258).size + 1) = False := eq_false (Nat.not_lt.2 c57)
                try have c57b3 : (9223372036854775807 < (t257).size + (t258).size + 1) = False := by have h_ := c57; (simp only [ByteArray.size_append] at h_); exact eq_false (Nat.not_lt.2 h_)
                replace H := Option.bind_eq_some_iff.mp H
                obtain ⟨t264, A580, H⟩ := H
                replace H : (if ((t257 ++ t258) ++ (⟨#[33]⟩ : ByteArray)).size + t264.size ≤ 9223372036854775807 then (some (((t257 ++ t258) ++ (⟨#[33]⟩ : ByteArray)) ++ t264)) else (none)) = some r := H
                have A58 := Aside0.mk A580
                clear A580
                by_cases c59 : ((t257 ++ t258) ++ (⟨#[33]⟩ : ByteArray)).size + t264.size ≤ 9223372036854775807
                · rw [if_pos c59] at H
                  have c59b0 := eq_true c59
                  have c59b1 : decide (((t257 ++ t258) ++ (⟨#[33]⟩ : ByteArray)).size + t264.size ≤ 9223372036854775807) = true := decide_eq_true c59
                  try have c59b2 : (9223372036854775807 < ((t257 ++ t258) ++ (⟨#[33]⟩ : ByteArray)).size + t264.size) = False := eq_false (Nat.not_lt.2 c59)
                  try have c59b3 : (9223372036854775807 < (t257).size + (t258).size + 1 + t264.size) = False := by have h_ := c59; (simp only [ByteArray.size_append] at h_); exact eq_false (Nat.not_lt.2 h_)
                  obtain rfl := Option.some.inj H
                  have hnb60 := NB255_256.out
                  have hnc60 := NB256_255.out
                  have hcz61_0 : wc.cell? ⟨gb255, 0, none⟩ = some (.string a0_0) := (blk_cell BK255.out 0).trans rfl
                  have hcz61_1 : wc.cell? ⟨gb255, 1, none⟩ = some (.int .i64 a0_1) := (blk_cell BK255.out 1).trans rfl
                  have hcz61_2 : wc.cell? ⟨gb255, 2, none⟩ = some (.int .i64 a0_2) := (blk_cell BK255.out 2).trans rfl
                  have hcz61_3 : wc.cell? ⟨gb255, 3, none⟩ = some (.int .i64 a0_3) := (blk_cell BK255.out 3).trans rfl
                  have hcz61_4 : wc.cell? ⟨gb255, 4, none⟩ = some (.bool true) := (blk_cell BK255.out 4).trans rfl
                  have hcz61_5 : wc.cell? ⟨gb255, 5, none⟩ = some (.bool a0_5) := (blk_cell BK255.out 5).trans rfl
                  have hcz61_6 : wc.cell? ⟨gb255, 6, none⟩ = some (.slice A0_6 l0_6.length c0_6) := (blk_cell BK255.out 6).trans rfl
                  have hfz61_0 := blk_frozen BK255.out 0
                  have hfz61_1 := blk_frozen BK255.out 1
                  have hfz61_2 := blk_frozen BK255.out 2
                  have hfz61_3 := blk_frozen BK255.out 3
                  have hfz61_4 := blk_frozen BK255.out 4
                  have hfz61_5 := blk_frozen BK255.out 5
                  have hfz61_6 := blk_frozen BK255.out 6
                  have hcz62_0 : wc.cell? ⟨gb256, 0, none⟩ = some (.string a1_0) := (blk_cell BK256.out 0).trans rfl
                  have hcz62_1 : wc.cell? ⟨gb256, 1, none⟩ = some (.string a1_1) := (blk_cell BK256.out 1).trans rfl
                  have hcz62_2 : wc.cell? ⟨gb256, 2, none⟩ = some (.string a1_2) := (blk_cell BK256.out 2).trans rfl
                  have hcz62_3 : wc.cell? ⟨gb256, 3, none⟩ = some (.bool false) := (blk_cell BK256.out 3).trans rfl
                  have hfz62_0 := blk_frozen BK256.out 0
                  have hfz62_1 := blk_frozen BK256.out 1
                  have hfz62_2 := blk_frozen BK256.out 2
                  have hfz62_3 := blk_frozen BK256.out 3
                  go_wp2_with (first | ((with_reducible refine gate_callee (f := 14) rfl ?_); refine goesL_ (some 40) rfl rfl Tryz.func14 (by kernel_rfl) rfl #[.slice A2 l2.length c2, .slice A0_6 l0_6.length c0_6] rfl (by (try simp only [List.map_toArray, List.map_cons, List.map_nil]); first | done | rfl | (simp only [List.length_drop, List.length_take]; rfl)) ?_; (with_reducible refine (pantryref11_Second.calls kj6 _ _ l2 _ _ l0_6 t264 _ ?side1 ?side2 ?side3 ?side4 A58.out).mono ?_); (case side1 => repeat (first | exact (Kd.C_below HR2.out HB.out) | (with_reducible refine Kd.C_alloc ?_ _) | (with_reducible refine Kd.C_drewN ?_ _) | (with_reducible refine Kd.C_drew ?_))); (case side2 => exact HC2.out); (case side3 => repeat (first | exact (Kd.C_below HR0_6.out HB.out) | (with_reducible refine Kd.C_alloc ?_ _) | (with_reducible refine Kd.C_drewN ?_ _) | (with_reducible refine Kd.C_drew ?_))); (case side4 => exact HC0_6.out); rintro e w63 ⟨rfl, hb⟩; refine ⟨_, rfl, ?_⟩; have n0_ := Aside0.mk (blk_below (g := gb255) (o := .cells #[.string a0_0, .int .i64 a0_1, .int .i64 a0_2, .int .i64 a0_3, .bool true, .bool a0_5, .slice A0_6 l0_6.length c0_6] 39 (0, 0)) (by (with_reducible repeat (first | refine blk_drewN ?_ _ | refine blk_drew ?_ | refine blk_alloc ?_ _)); exact BK255.out) hb); have n1_ := Aside0.mk (blk_below (g := gb256) (o := .cells #[.string a1_0, .string a1_1, .string a1_2, .bool false] 41 (0, 0)) (by (with_reducible repeat (first | refine blk_drewN ?_ _ | refine blk_drew ?_ | refine blk_alloc ?_ _)); exact BK256.out) hb); have n2_ := Aside0.mk (below_step (by repeat (first | (with_reducible first | exact HB.out | apply below_alloc | apply pw_below_drewN | apply below_drew1 | refine below_set ?_ GE255.out | refine below_set ?_ GE256.out) | exact HB.out)) hb); clear BK255; clear BK256; clear HB; have BK255 := n0_; have BK256 := n1_; have HB := n2_; clear n0_ n1_ n2_; (try clear hb); (try clear hb2); (try clear hk); (try clear hi)))
                  go_ret
                  exact ⟨by first | rfl | (generalize ByteArray.toList _ = l_; cases l_ <;> rfl) | (simp [errW_none, errW_some] <;> rfl) | (simp [*, errW_none, errW_some] <;> rfl), by repeat (first | (with_reducible first | exact HB.out | apply below_alloc | apply pw_below_drewN | apply below_drew1 | refine below_set ?_ GE255.out | refine below_set ?_ GE256.out) | exact HB.out)⟩
                · rw [if_neg c59] at H
                  exact absurd H (by simp)
              · rw [if_neg c57] at H
                exact absurd H (by simp)
          · replace c49 := Bool.eq_false_iff.mpr c49
            subst c49
            have H1 : ((pantryref11_Second.f kj6 l2 l0_6).bind fun t265 => (if (t257 ++ t258).size + t265.size ≤ 9223372036854775807 then (some ((t257 ++ t258) ++ t265)) else (none))) = some r := by rw [if_neg (show ¬ (false = true) by decide)] at H; exact H
            clear H
            have H := H1
            clear H1
            replace H := Option.bind_eq_some_iff.mp H
            obtain ⟨t265, A640, H⟩ := H
            replace H : (if (t257 ++ t258).size + t265.size ≤ 9223372036854775807 then (some ((t257 ++ t258) ++ t265)) else (none)) = some r := H
            have A64 := Aside0.mk A640
            clear A640
            by_cases c65 : (t257 ++ t258).size + t265.size ≤ 9223372036854775807
            · rw [if_pos c65] at H
              have c65b0 := eq_true c65
              have c65b1 : decide ((t257 ++ t258).size + t265.size ≤ 9223372036854775807) = true := decide_eq_true c65
              try have c65b2 : (9223372036854775807 < (t257 ++ t258).size + t265.size) = False := eq_false (Nat.not_lt.2 c65)
              try have c65b3 : (9223372036854775807 < (t257).size + (t258).size + t265.size) = False := by have h_ := c65; (simp only [ByteArray.size_append] at h_); exact eq_false (Nat.not_lt.2 h_)
              obtain rfl := Option.some.inj H
              have hnb66 := NB255_256.out
              have hnc66 := NB256_255.out
              have hcz67_0 : wc.cell? ⟨gb255, 0, none⟩ = some (.string a0_0) := (blk_cell BK255.out 0).trans rfl
              have hcz67_1 : wc.cell? ⟨gb255, 1, none⟩ = some (.int .i64 a0_1) := (blk_cell BK255.out 1).trans rfl
              have hcz67_2 : wc.cell? ⟨gb255, 2, none⟩ = some (.int .i64 a0_2) := (blk_cell BK255.out 2).trans rfl
              have hcz67_3 : wc.cell? ⟨gb255, 3, none⟩ = some (.int .i64 a0_3) := (blk_cell BK255.out 3).trans rfl
              have hcz67_4 : wc.cell? ⟨gb255, 4, none⟩ = some (.bool false) := (blk_cell BK255.out 4).trans rfl
              have hcz67_5 : wc.cell? ⟨gb255, 5, none⟩ = some (.bool a0_5) := (blk_cell BK255.out 5).trans rfl
              have hcz67_6 : wc.cell? ⟨gb255, 6, none⟩ = some (.slice A0_6 l0_6.length c0_6) := (blk_cell BK255.out 6).trans rfl
              have hfz67_0 := blk_frozen BK255.out 0
              have hfz67_1 := blk_frozen BK255.out 1
              have hfz67_2 := blk_frozen BK255.out 2
              have hfz67_3 := blk_frozen BK255.out 3
              have hfz67_4 := blk_frozen BK255.out 4
              have hfz67_5 := blk_frozen BK255.out 5
              have hfz67_6 := blk_frozen BK255.out 6
              go_wp2_with (first | ((with_reducible refine gate_callee (f := 14) rfl ?_); refine goesL_ (some 40) rfl rfl Tryz.func14 (by kernel_rfl) rfl #[.slice A2 l2.length c2, .slice A0_6 l0_6.length c0_6] rfl (by (try simp only [List.map_toArray, List.map_cons, List.map_nil]); first | done | rfl | (simp only [List.length_drop, List.length_take]; rfl)) ?_; (with_reducible refine (pantryref11_Second.calls kj6 _ _ l2 _ _ l0_6 t265 _ ?side1 ?side2 ?side3 ?side4 A64.out).mono ?_); (case side1 => repeat (first | exact (Kd.C_below HR2.out HB.out) | (with_reducible refine Kd.C_alloc ?_ _) | (with_reducible refine Kd.C_drewN ?_ _) | (with_reducible refine Kd.C_drew ?_))); (case side2 => exact HC2.out); (case side3 => repeat (first | exact (Kd.C_below HR0_6.out HB.out) | (with_reducible refine Kd.C_alloc ?_ _) | (with_reducible refine Kd.C_drewN ?_ _) | (with_reducible refine Kd.C_drew ?_))); (case side4 => exact HC0_6.out); rintro e w68 ⟨rfl, hb⟩; refine ⟨_, rfl, ?_⟩; have n0_ := Aside0.mk (blk_below (g := gb255) (o := .cells #[.string a0_0, .int .i64 a0_1, .int .i64 a0_2, .int .i64 a0_3, .bool false, .bool a0_5, .slice A0_6 l0_6.length c0_6] 39 (0, 0)) (by (with_reducible repeat (first | refine blk_drewN ?_ _ | refine blk_drew ?_ | refine blk_alloc ?_ _)); exact BK255.out) hb); have n1_ := Aside0.mk (blk_below (g := gb256) (o := .cells #[.string a1_0, .string a1_1, .string a1_2, .bool a1_3] 41 (0, 0)) (by (with_reducible repeat (first | refine blk_drewN ?_ _ | refine blk_drew ?_ | refine blk_alloc ?_ _)); exact BK256.out) hb); have n2_ := Aside0.mk (below_step (by repeat (first | (with_reducible first | exact HB.out | apply below_alloc | apply pw_below_drewN | apply below_drew1 | refine below_set ?_ GE255.out | refine below_set ?_ GE256.out) | exact HB.out)) hb); clear BK255; clear BK256; clear HB; have BK255 := n0_; have BK256 := n1_; have HB := n2_; clear n0_ n1_ n2_; (try clear hb); (try clear hb2); (try clear hk); (try clear hi)))
              go_ret
              exact ⟨by first | rfl | (generalize ByteArray.toList _ = l_; cases l_ <;> rfl) | (simp [errW_none, errW_some] <;> rfl) | (simp [*, errW_none, errW_some] <;> rfl), by repeat (first | (with_reducible first | exact HB.out | apply below_alloc | apply pw_below_drewN | apply below_drew1 | refine below_set ?_ GE255.out | refine below_set ?_ GE256.out) | exact HB.out)⟩
            · rw [if_neg c65] at H
              exact absurd H (by simp)
  · rw [if_neg c6] at H
    exact absurd H (by simp)

/-! ### pantrymade_Site: function 12, by hand -/
def pantrymade_Site.f (a0_0 : ByteArray) (a0_1 a0_2 a0_3 : Int) (a0_4 a0_5 : Bool) (l0_6 : List ByteArray) : Option Bool := some true
set_option maxHeartbeats 1000000 in
set_option maxRecDepth 100000 in
theorem pantrymade_Site.calls (a0_0 : ByteArray) (a0_1 a0_2 a0_3 : Int) (a0_4 a0_5 : Bool) (A0_6 : Option Addr) (c0_6 : Nat) (l0_6 : List ByteArray) (r : Bool) (w : World) (hr0_6 : Kd.C Kd.string w A0_6 l0_6.length l0_6) (hc0_6 : l0_6.length ≤ c0_6) (h : pantrymade_Site.f a0_0 a0_1 a0_2 a0_3 a0_4 a0_5 l0_6 = some r) :
    Calls Tryz.prog 12 #[.agg #[.string a0_0, .int .i64 a0_1, .int .i64 a0_2, .int .i64 a0_3, .bool a0_4, .bool a0_5, .slice A0_6 l0_6.length c0_6]] w fun e w' => e = .returned (.agg #[.string a0_0, .int .i64 a0_1, .int .i64 a0_2, .int .i64 a0_3, .bool a0_4, .bool a0_5, .slice A0_6 l0_6.length c0_6]) ∧ Below w.heap.size w w' := by
  clear hr0_6 hc0_6 h
  go_enter Tryz.func12, Tryz.ntmps12
  go_wp2
  exact bodyPost_ret (v := .agg #[.string a0_0, .int .i64 a0_1, .int .i64 a0_2, .int .i64 a0_3, .bool a0_4, .bool a0_5, .slice A0_6 l0_6.length c0_6]) (by simp [results, Tryz.results12, go_sem]) rfl ⟨rfl, by repeat (first | exact Below.refl _ _ | refine Below.setCell ?_ (by simp) _ | refine Below.alloc ?_ (by simp) _)⟩

end Go.Proofs.YtagjgnmchgabgaaGreatDoor.PAll
