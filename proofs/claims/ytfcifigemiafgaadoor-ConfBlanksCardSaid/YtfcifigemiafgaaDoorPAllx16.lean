import Derived.Test.YtfcifigemiafgaaDoorPAllx0
import Derived.Test.YtfcifigemiafgaaDoorPAllx15
namespace Go.Proofs.YtfcifigemiafgaaDoor.PAll
open Go.RowKit Go.Proofs.YtfcifigemiafgaaDoorW.PrintWords Go.Proofs.YtfcifigemiafgaaDoorW.PrintLast Go.Proofs.YtfcifigemiafgaaDoorW.PrintMore
attribute [local go_sem] max2_int min2_int max_two min_two max_three min_three max_four min_four   -- for this text's walks alone
set_option linter.unusedVariables false
set_option linter.unusedSimpArgs false

/-! ### pantryref09_Same: function 17 -/
def pantryref09_Same.l0 : Nat → Int → List (S38) → List (S38) → Option (Bool)
 | 0, _, _, _ => none
 | k + 1, x5, x232000, x233000 => if x5 < (x232000.length : Int) then (if 0 ≤ x5 then (if x5 < (x233000.length : Int) then ((pantryref09_Alike.f k ((rd_T38 x232000 x5).f0) ((rd_T38 x232000 x5).f1) ((rd_T38 x232000 x5).f2) ((rd_T38 x232000 x5).f3) ((rd_T38 x232000 x5).f4) ((rd_T38 x232000 x5).f5) ((rd_T38 x232000 x5).f6) ((rd_T38 x233000 x5).f0) ((rd_T38 x233000 x5).f1) ((rd_T38 x233000 x5).f2) ((rd_T38 x233000 x5).f3) ((rd_T38 x233000 x5).f4) ((rd_T38 x233000 x5).f5) ((rd_T38 x233000 x5).f6)).bind fun t235 => (if t235 = true then (pantryref09_Same.l0 k (wrap64 (x5 + 1)) x232000 x233000) else (some false))) else (none)) else (none)) else (some true)
def pantryref09_Same.f (k : Nat) (l0_0 : List (S38)) (l1_0 : List (S38)) : Option (Bool) := if (l0_0.length : Int) = (l1_0.length : Int) then (pantryref09_Same.l0 k 0 l0_0 l1_0) else (some false)
theorem pantryref09_Same.mono_l : ∀ k, (∀ y0 y1 y2, LeO (pantryref09_Same.l0 k y0 y1 y2) (pantryref09_Same.l0 (k + 1) y0 y1 y2))
 | 0 => fun _ _ _ r h => by simp [pantryref09_Same.l0] at h
 | k + 1 => by
  have ih0 := pantryref09_Same.mono_l k
  ·
   intro y0 y1 y2
   unfold pantryref09_Same.l0
   repeat' (with_reducible first | exact ih0 _ _ _ | exact pantryref09_Alike.mono _ _ _ _ _ _ _ _ _ _ _ _ _ _ _ | exact lR_ | refine LeO.ite ?_ ?_ | refine LeO.bind ?_ (fun _ => ?_))
theorem pantryref09_Same.mono : ∀ a0 a1 k, LeO (pantryref09_Same.f k a0 a1) (pantryref09_Same.f (k + 1) a0 a1) := by
 intro a0 a1 k
 have ih0 := pantryref09_Same.mono_l k
 unfold pantryref09_Same.f
 repeat' (with_reducible first | exact ih0 _ _ _ | exact pantryref09_Alike.mono _ _ _ _ _ _ _ _ _ _ _ _ _ _ _ | exact lR_ | refine LeO.ite ?_ ?_ | refine LeO.bind ?_ (fun _ => ?_))
def pantryref09_Same.T6 : Bool × List (List Nat × List Nat) := (true, [([], []), ([0], [0]), ([], []), ([1, 2], [1, 2]), ([3], [3]), ([], []), ([5], [5]), ([], []), ([6, 7], [6, 7]), ([8], [8]), ([4, 9], [4, 9]), ([10], [10])])
def pantryref09_Same.B6 : List Nat := [0, 1, 0, 7, 15, 0, 32, 0, 224, 480, 1023, 2047]
theorem pantryref09_Same.tab6 : rtab .any (opsOf Tryd.f17 6) = pantryref09_Same.T6 := by kernel_rfl
theorem pantryref09_Same.bits6 : waitsOk pantryref09_Same.T6.2 pantryref09_Same.B6 = true := by kernel_rfl
set_option maxHeartbeats 8000000 in
set_option maxRecDepth 100000 in
theorem pantryref09_Same.calls (k : Nat) (A0_0 : Option Addr) (c0_0 : Nat) (l0_0 : List (S38)) (A1_0 : Option Addr) (c1_0 : Nat) (l1_0 : List (S38)) (r : Bool) (w : World) (hr0_0 : Kd.C k38 w A0_0 l0_0.length l0_0) (hc0_0 : l0_0.length ≤ c0_0) (hr1_0 : Kd.C k38 w A1_0 l1_0.length l1_0) (hc1_0 : l1_0.length ≤ c1_0) (h : pantryref09_Same.f k l0_0 l1_0 = some r) :
  Calls Tryd.prog 17 #[.agg #[.slice A0_0 l0_0.length c0_0], .agg #[.slice A1_0 l1_0.length c1_0]] w fun e w' => e = .returned (.bool r) ∧ Below w.heap.size w w' := by
 have hu34 := Tryd.underlying34
 have hu38 := Tryd.underlying38
 have HR0_0 := Aside0.mk hr0_0
 have HC0_0 := Aside0.mk hc0_0
 clear hr0_0 hc0_0
 have HR1_0 := Aside0.mk hr1_0
 have HC1_0 := Aside0.mk hc1_0
 clear hr1_0 hc1_0
 have HB := Aside0.mk (Below.refl w.heap.size w)
 have H : (if (l0_0.length : Int) = (l1_0.length : Int) then (pantryref09_Same.l0 k 0 l0_0 l1_0) else (some false)) = some r := h
 clear h
 by_cases c3 : (l0_0.length : Int) = (l1_0.length : Int)
 ·
  rw [if_pos c3] at H
  have c3b0 : ((l0_0.length : Int) == (l1_0.length : Int)) = true := beq_iff_eq.mpr c3
  have c3b1 : ((l0_0.length : Int) != (l1_0.length : Int)) = false := bne_eq_false_iff_eq.mpr c3
  have c3b2 : (l0_0.length == l1_0.length) = true := by first | simpa using c3 | (simp at c3 ⊢; omega)
  clear c3
  have H' := Aside0.mk H
  clear H
  go_enter Tryd.func17, Tryd.ntmps17
  go_wp2_with (first | ((with_reducible refine gate_dst (N := 2) rfl ?_); refine box_event ?hg (N := 2) ?hd (cs := #[.slice A0_0 l0_0.length c0_0]) (t := 34) ?hr ?_; (case hd | hg => rfl); (case hr => exact S1_); intro gb231 hg w4 hbox hb; have BK231 := Aside0.mk (hbox); have GW231 := Aside0.mk ((Z1_ : w.heap.size ≤ gb231)); have GE231 := Aside0.mk ((Z1_ : w.heap.size ≤ gb231)); replace HB := y1_ hb; clear hb hbox hg) | ((with_reducible refine gate_dst (N := 3) rfl ?_); refine box_event ?hg (N := 3) ?hd (cs := #[.slice A1_0 l1_0.length c1_0]) (t := 34) ?hr ?_; (case hd | hg => rfl); (case hr => exact S1_); intro gb232 hg w5 hbox hb; have BK232 := Aside0.mk (hbox); have GW232 := Aside0.mk ((Z2_ : w.heap.size ≤ gb232)); have GE232 := Aside0.mk ((Z2_ : w.heap.size ≤ gb232)); have NB231_232 := Aside0.mk ((by rw [hg]; exact Nat.ne_of_lt (blk_lt (B1_ BK231.out)) : gb231 ≠ gb232)); have NB232_231 := Aside0.mk ((by rw [hg]; exact Nat.ne_of_gt (blk_lt (B1_ BK231.out)) : gb232 ≠ gb231)); replace BK231 := yB_ BK231 hb; replace HB := y2_ hb; clear hb hbox hg; have hnb6 := NB231_232.out; have hnc6 := NB232_231.out; obtain ⟨z7_0, y7_0⟩ := cz1_ BK231.out; obtain ⟨z8_0, y8_0⟩ := cz1_ BK232.out))
  go_loopg [5] k (fun kq v5 w' => ∃ (x5_1 : Int), v5 = .int .i64 x5_1 ∧ Aside0 (pantryref09_Same.l0 kq x5_1 l0_0 l1_0 = some r) ∧ Aside0 (kq ≤ k) ∧ Aside0 (w'.heap[gb231]? = some (.cells #[(.slice A0_0 l0_0.length c0_0)] 34 (0, 0))) ∧ Aside0 (w'.heap[gb232]? = some (.cells #[(.slice A1_0 l1_0.length c1_0)] 34 (0, 0))) ∧ Aside0 (Below w.heap.size w w'))
  case atStart => exact ⟨(0), E3_, H', ⟨Nat.le_refl _⟩, ⟨B1_ BK231.out⟩, ⟨B1_ BK232.out⟩, ⟨W2_⟩⟩
  case round =>
   clear H'
   (try clear c3); (try clear c3b0); (try clear c3b1); (try clear c3b2); (try clear z7_0 y7_0); (try clear z8_0 y8_0)
   obtain ⟨x5_1, rfl, HA, HK1, BK231, BK232, HB⟩ := hrel
   cases gk with
   | zero => exact absurd HA.out (by simp [pantryref09_Same.l0])
   | succ k1 =>
    have H := HA.out
    clear HA
    simp only [pantryref09_Same.l0] at H
    by_cases c9 : x5_1 < (l0_0.length : Int)
    ·
     rw [if_pos c9] at H
     have c9b0 : decide (x5_1 < (l0_0.length : Int)) = true := decide_eq_true c9
     clear c9
     by_cases c10 : 0 ≤ x5_1
     ·
      rw [if_pos c10] at H
      have c10b0 : decide (0 ≤ x5_1) = true := decide_eq_true c10
      clear c10
      by_cases c11 : x5_1 < (l1_0.length : Int)
      ·
       rw [if_pos c11] at H
       have c11b0 : decide (x5_1 < (l1_0.length : Int)) = true := decide_eq_true c11
       clear c11
       obtain ⟨t235, A12, H⟩ := bS_ H
       try dsimp only at H
       by_cases c13 : t235 = true
       ·
        subst c13
        rw [if_pos rfl] at H
        have H' := Aside0.mk H
        clear H
        have hnb14 := NB231_232.out
        have hnc14 := NB232_231.out
        obtain ⟨z15_0, y15_0⟩ := cz1_ BK231.out
        try go_wp2
        have n0_ := Aside0.mk (bD_ BK231.out)
        have n1_ := Aside0.mk (bD_ BK232.out)
        have n2_ := Aside0.mk (zD_ HB.out)
        clear BK231
        clear BK232
        clear HB
        have BK231 := n0_
        have BK232 := n1_
        have HB := n2_
        clear n0_ n1_ n2_
        have p233 : 0 ≤ (x5_1 : Int) := oA_
        have q233 : x5_1 < (l0_0.length : Int) := oA_
        obtain ⟨ad233, A233_6, c233_6, e233, hx233_0, hx233_1, hx233_2, hx233_3, hx233_4, hx233_5, hx233_6, hl233_6, hi233_6⟩ := at_T38 HR0_0.out x5_1 p233 q233
        have hw233_6 := hx233_6
        have hw233_5 := hx233_5
        have hw233_4 := hx233_4
        have hw233_3 := hx233_3
        have hw233_2 := hx233_2
        have hw233_1 := hx233_1
        have hw233_0 := hx233_0
        cases e233
        replace hx233_0 := (HB.out.cell (World.block_lt_of_cell? w _ hx233_0)).trans hx233_0
        replace hx233_1 := (HB.out.cell (World.block_lt_of_cell? w _ hx233_1)).trans hx233_1
        replace hx233_2 := (HB.out.cell (World.block_lt_of_cell? w _ hx233_2)).trans hx233_2
        replace hx233_3 := (HB.out.cell (World.block_lt_of_cell? w _ hx233_3)).trans hx233_3
        replace hx233_4 := (HB.out.cell (World.block_lt_of_cell? w _ hx233_4)).trans hx233_4
        replace hx233_5 := (HB.out.cell (World.block_lt_of_cell? w _ hx233_5)).trans hx233_5
        replace hx233_6 := (HB.out.cell (World.block_lt_of_cell? w _ hx233_6)).trans hx233_6
        have HR233_6 := Aside0.mk hi233_6
        have HC233_6 := Aside0.mk hl233_6
        clear hi233_6 hl233_6
        replace p233 := eq_true p233
        replace q233 := eq_true q233
        have p234 : 0 ≤ (x5_1 : Int) := oA_
        have q234 : x5_1 < (l1_0.length : Int) := oA_
        obtain ⟨ad234, A234_6, c234_6, e234, hx234_0, hx234_1, hx234_2, hx234_3, hx234_4, hx234_5, hx234_6, hl234_6, hi234_6⟩ := at_T38 HR1_0.out x5_1 p234 q234
        have hw234_6 := hx234_6
        have hw234_5 := hx234_5
        have hw234_4 := hx234_4
        have hw234_3 := hx234_3
        have hw234_2 := hx234_2
        have hw234_1 := hx234_1
        have hw234_0 := hx234_0
        cases e234
        replace hx234_0 := (HB.out.cell (World.block_lt_of_cell? w _ hx234_0)).trans hx234_0
        replace hx234_1 := (HB.out.cell (World.block_lt_of_cell? w _ hx234_1)).trans hx234_1
        replace hx234_2 := (HB.out.cell (World.block_lt_of_cell? w _ hx234_2)).trans hx234_2
        replace hx234_3 := (HB.out.cell (World.block_lt_of_cell? w _ hx234_3)).trans hx234_3
        replace hx234_4 := (HB.out.cell (World.block_lt_of_cell? w _ hx234_4)).trans hx234_4
        replace hx234_5 := (HB.out.cell (World.block_lt_of_cell? w _ hx234_5)).trans hx234_5
        replace hx234_6 := (HB.out.cell (World.block_lt_of_cell? w _ hx234_6)).trans hx234_6
        have HR234_6 := Aside0.mk hi234_6
        have HC234_6 := Aside0.mk hl234_6
        clear hi234_6 hl234_6
        replace p234 := eq_true p234
        replace q234 := eq_true q234
        refine start_ (n := 12) (S := fun w' => w'.cell? ⟨gb231, 0, none⟩ = some (.slice (some ad233) l0_0.length c0_0) ∧ w'.cell? ⟨gb232, 0, none⟩ = some (.slice (some ad234) l1_0.length c1_0) ∧ w'.cell? (ad233.add ((x5_1).toNat * 7)) = some (.string ((rd_T38 l0_0 x5_1).f0)) ∧ w'.cell? ⟨(ad233.add ((x5_1).toNat * 7)).block, (ad233.add ((x5_1).toNat * 7)).off + 1, none⟩ = some (.int .i64 ((rd_T38 l0_0 x5_1).f1)) ∧ w'.cell? ⟨(ad233.add ((x5_1).toNat * 7)).block, (ad233.add ((x5_1).toNat * 7)).off + 2, none⟩ = some (.int .i64 ((rd_T38 l0_0 x5_1).f2)) ∧ w'.cell? ⟨(ad233.add ((x5_1).toNat * 7)).block, (ad233.add ((x5_1).toNat * 7)).off + 3, none⟩ = some (.int .i64 ((rd_T38 l0_0 x5_1).f3)) ∧ w'.cell? ⟨(ad233.add ((x5_1).toNat * 7)).block, (ad233.add ((x5_1).toNat * 7)).off + 4, none⟩ = some (.bool ((rd_T38 l0_0 x5_1).f4)) ∧ w'.cell? ⟨(ad233.add ((x5_1).toNat * 7)).block, (ad233.add ((x5_1).toNat * 7)).off + 5, none⟩ = some (.bool ((rd_T38 l0_0 x5_1).f5)) ∧ w'.cell? ⟨(ad233.add ((x5_1).toNat * 7)).block, (ad233.add ((x5_1).toNat * 7)).off + 6, none⟩ = some (.slice A233_6 ((rd_T38 l0_0 x5_1).f6).length c233_6) ∧ w'.cell? (ad234.add ((x5_1).toNat * 7)) = some (.string ((rd_T38 l1_0 x5_1).f0)) ∧ w'.cell? ⟨(ad234.add ((x5_1).toNat * 7)).block, (ad234.add ((x5_1).toNat * 7)).off + 1, none⟩ = some (.int .i64 ((rd_T38 l1_0 x5_1).f1)) ∧ w'.cell? ⟨(ad234.add ((x5_1).toNat * 7)).block, (ad234.add ((x5_1).toNat * 7)).off + 2, none⟩ = some (.int .i64 ((rd_T38 l1_0 x5_1).f2)) ∧ w'.cell? ⟨(ad234.add ((x5_1).toNat * 7)).block, (ad234.add ((x5_1).toNat * 7)).off + 3, none⟩ = some (.int .i64 ((rd_T38 l1_0 x5_1).f3)) ∧ w'.cell? ⟨(ad234.add ((x5_1).toNat * 7)).block, (ad234.add ((x5_1).toNat * 7)).off + 4, none⟩ = some (.bool ((rd_T38 l1_0 x5_1).f4)) ∧ w'.cell? ⟨(ad234.add ((x5_1).toNat * 7)).block, (ad234.add ((x5_1).toNat * 7)).off + 5, none⟩ = some (.bool ((rd_T38 l1_0 x5_1).f5)) ∧ w'.cell? ⟨(ad234.add ((x5_1).toNat * 7)).block, (ad234.add ((x5_1).toNat * 7)).off + 6, none⟩ = some (.slice A234_6 ((rd_T38 l1_0 x5_1).f6).length c234_6)) (ds := []) #[false, false, false, false, false, false, false, false, false, false, false, false] (by kernel_rfl) rfl rfl ⟨xC_ BK231.out 0, xC_ BK232.out 0, ((HB.out.cell (World.block_lt_of_cell? w _ hw233_0)).trans hw233_0), ((HB.out.cell (World.block_lt_of_cell? w _ hw233_1)).trans hw233_1), ((HB.out.cell (World.block_lt_of_cell? w _ hw233_2)).trans hw233_2), ((HB.out.cell (World.block_lt_of_cell? w _ hw233_3)).trans hw233_3), ((HB.out.cell (World.block_lt_of_cell? w _ hw233_4)).trans hw233_4), ((HB.out.cell (World.block_lt_of_cell? w _ hw233_5)).trans hw233_5), ((HB.out.cell (World.block_lt_of_cell? w _ hw233_6)).trans hw233_6), ((HB.out.cell (World.block_lt_of_cell? w _ hw234_0)).trans hw234_0), ((HB.out.cell (World.block_lt_of_cell? w _ hw234_1)).trans hw234_1), ((HB.out.cell (World.block_lt_of_cell? w _ hw234_2)).trans hw234_2), ((HB.out.cell (World.block_lt_of_cell? w _ hw234_3)).trans hw234_3), ((HB.out.cell (World.block_lt_of_cell? w _ hw234_4)).trans hw234_4), ((HB.out.cell (World.block_lt_of_cell? w _ hw234_5)).trans hw234_5), ((HB.out.cell (World.block_lt_of_cell? w _ hw234_6)).trans hw234_6)⟩ (fun hHeld => ?_); refine with_tabW pantryref09_Same.tab6 pantryref09_Same.bits6 (fun HT_ HW_ => ?_)
        generalize wr.drew = w16 at BK231 BK232 HB HR233_6 HR234_6 hx233_0 hx233_1 hx233_2 hx233_3 hx233_4 hx233_5 hx233_6 hx234_0 hx234_1 hx234_2 hx234_3 hx234_4 hx234_5 hx234_6 hHeld ⊢
        refine pure_ (i := 0) (N := some 20) (v := ?_) (a' := ?_) #[true, false, false, false, false, false, false, false, false, false, false, false] rfl rfl (any_of HT_.out (by kernel_rfl)) (fun _ _ _ h => h) (Or.inl ⟨by rfl, ?_⟩) ?_ ?_
        rotate_left
        ·
         intro w'
         go_simp
         with_reducible rfl
        rotate_left
        ·
         simp only [Act.put, sA_, sZ_, sS_, i64_w, i32_w]
         rfl
        refine pure_ (i := 2) (N := some 22) (v := ?_) (a' := ?_) #[true, false, true, false, false, false, false, false, false, false, false, false] rfl rfl (any_of HT_.out (by kernel_rfl)) (fun _ _ _ h => h) (Or.inl ⟨by rfl, ?_⟩) ?_ ?_
        rotate_left
        ·
         intro w'
         go_simp
         with_reducible rfl
        rotate_left
        ·
         simp only [Act.put, sA_, sZ_, sS_, i64_w, i32_w]
         rfl
        refine pure_ (i := 5) (N := some 25) (v := ?_) (a' := ?_) #[true, false, true, false, false, true, false, false, false, false, false, false] rfl rfl (any_of HT_.out (by kernel_rfl)) (fun _ _ _ h => h) (Or.inl ⟨by rfl, ?_⟩) ?_ ?_
        rotate_left
        ·
         intro w'
         go_simp
         with_reducible rfl
        rotate_left
        ·
         simp only [Act.put, sA_, sZ_, sS_, i64_w, i32_w]
         rfl
        refine pure_ (i := 7) (N := some 27) (v := ?_) (a' := ?_) #[true, false, true, false, false, true, false, true, false, false, false, false] rfl rfl (any_of HT_.out (by kernel_rfl)) (fun _ _ _ h => h) (Or.inl ⟨by rfl, ?_⟩) ?_ ?_
        rotate_left
        ·
         intro w'
         go_simp
         with_reducible rfl
        rotate_left
        ·
         simp only [Act.put, sA_, sZ_, sS_, i64_w, i32_w]
         rfl
        refine take_ (i := 1) (N := some 21) (v := ?_) (a' := ?_) #[true, true, true, false, false, true, false, true, false, false, false, false] rfl rfl (take_ofW HT_.out HW_.out (by kernel_rfl)) (fun _ _ _ h => h) (Or.inl ⟨by rfl, ?_⟩) hHeld ?_ ?_
        rotate_left
        ·
         rintro w' ⟨s0, s1, s2, s3, s4, s5, s6, s7, s8, s9, s10, s11, s12, s13, s14, s15⟩
         go_simp
         with_reducible rfl
        rotate_left
        ·
         simp only [Act.put, sA_, sZ_, sS_, i64_w, i32_w]
         rfl
        refine pure_ (i := 3) (N := some 23) (v := ?_) (a' := ?_) #[true, true, true, true, false, true, false, true, false, false, false, false] rfl rfl (any_of HT_.out (by kernel_rfl)) (fun _ _ _ h => h) (Or.inl ⟨by rfl, ?_⟩) ?_ ?_
        rotate_left
        ·
         intro w'
         go_simp
         with_reducible rfl
        rotate_left
        ·
         simp only [Act.put, sA_, sZ_, sS_, i64_w, i32_w]
         rfl
        refine take_ (i := 4) (N := some 24) (v := ?_) (a' := ?_) #[true, true, true, true, true, true, false, true, false, false, false, false] rfl rfl (take_ofW HT_.out HW_.out (by kernel_rfl)) (fun _ _ _ h => h) (Or.inl ⟨by rfl, ?_⟩) hHeld ?_ ?_
        rotate_left
        ·
         rintro w' ⟨s0, s1, s2, s3, s4, s5, s6, s7, s8, s9, s10, s11, s12, s13, s14, s15⟩
         go_simp
         with_reducible rfl
        rotate_left
        ·
         simp only [Act.put, sA_, sZ_, sS_, i64_w, i32_w]
         rfl
        refine take_ (i := 6) (N := some 26) (v := ?_) (a' := ?_) #[true, true, true, true, true, true, true, true, false, false, false, false] rfl rfl (take_ofW HT_.out HW_.out (by kernel_rfl)) (fun _ _ _ h => h) (Or.inl ⟨by rfl, ?_⟩) hHeld ?_ ?_
        rotate_left
        ·
         rintro w' ⟨s0, s1, s2, s3, s4, s5, s6, s7, s8, s9, s10, s11, s12, s13, s14, s15⟩
         go_simp
         with_reducible rfl
        rotate_left
        ·
         simp only [Act.put, sA_, sZ_, sS_, i64_w, i32_w]
         rfl
        refine pure_ (i := 8) (N := some 28) (v := ?_) (a' := ?_) #[true, true, true, true, true, true, true, true, true, false, false, false] rfl rfl (any_of HT_.out (by kernel_rfl)) (fun _ _ _ h => h) (Or.inl ⟨by rfl, ?_⟩) ?_ ?_
        rotate_left
        ·
         intro w'
         go_simp
         with_reducible rfl
        rotate_left
        ·
         simp only [Act.put, sA_, sZ_, sS_, i64_w, i32_w]
         rfl
        refine take_ (i := 9) (N := some 29) (v := ?_) (a' := ?_) #[true, true, true, true, true, true, true, true, true, true, false, false] rfl rfl (take_ofW HT_.out HW_.out (by kernel_rfl)) (fun _ _ _ h => h) (Or.inl ⟨by rfl, ?_⟩) hHeld ?_ ?_
        rotate_left
        ·
         rintro w' ⟨s0, s1, s2, s3, s4, s5, s6, s7, s8, s9, s10, s11, s12, s13, s14, s15⟩
         go_simp
         with_reducible rfl
        rotate_left
        ·
         simp only [Act.put, sA_, sZ_, sS_, i64_w, i32_w]
         rfl
        refine one_ (i := 10) (N := some 30) #[true, true, true, true, true, true, true, true, true, true, true, false] rfl rfl (one_of HT_.out (by kernel_rfl)) (by decide) (fun K hK => ?_)
        refine goes_ Tryd.func13 (by kernel_rfl) rfl #[.agg #[.string ((rd_T38 l0_0 x5_1).f0), .int .i64 ((rd_T38 l0_0 x5_1).f1), .int .i64 ((rd_T38 l0_0 x5_1).f2), .int .i64 ((rd_T38 l0_0 x5_1).f3), .bool ((rd_T38 l0_0 x5_1).f4), .bool ((rd_T38 l0_0 x5_1).f5), .slice A233_6 ((rd_T38 l0_0 x5_1).f6).length c233_6], .agg #[.string ((rd_T38 l1_0 x5_1).f0), .int .i64 ((rd_T38 l1_0 x5_1).f1), .int .i64 ((rd_T38 l1_0 x5_1).f2), .int .i64 ((rd_T38 l1_0 x5_1).f3), .bool ((rd_T38 l1_0 x5_1).f4), .bool ((rd_T38 l1_0 x5_1).f5), .slice A234_6 ((rd_T38 l1_0 x5_1).f6).length c234_6]] (by rfl) rfl rfl T1_ ?_
        with_reducible refine (pantryref09_Alike.calls k1 ((rd_T38 l0_0 x5_1).f0) ((rd_T38 l0_0 x5_1).f1) ((rd_T38 l0_0 x5_1).f2) ((rd_T38 l0_0 x5_1).f3) ((rd_T38 l0_0 x5_1).f4) ((rd_T38 l0_0 x5_1).f5) _ _ ((rd_T38 l0_0 x5_1).f6) ((rd_T38 l1_0 x5_1).f0) ((rd_T38 l1_0 x5_1).f1) ((rd_T38 l1_0 x5_1).f2) ((rd_T38 l1_0 x5_1).f3) ((rd_T38 l1_0 x5_1).f4) ((rd_T38 l1_0 x5_1).f5) _ _ ((rd_T38 l1_0 x5_1).f6) true _ ?side1 ?side2 ?side3 ?side4 A12.out).mono ?_
        (case side1 => exact C1_ ((Kd.C_below HR233_6.out HB.out)))
        (case side2 => exact HC233_6.out)
        (case side3 => exact C1_ ((Kd.C_below HR234_6.out HB.out)))
        (case side4 => exact HC234_6.out)
        rintro e w17 ⟨rfl, hb⟩
        refine ⟨_, rfl, ?_⟩
        have n0_ := Aside0.mk (blk_below (B1_ BK231.out) hb)
        have n1_ := Aside0.mk (blk_below (B1_ BK232.out) hb)
        have n2_ := Aside0.mk (below_step W2_ hb)
        clear BK231
        clear BK232
        clear HB
        have BK231 := n0_
        have BK232 := n1_
        have HB := n2_
        clear n0_ n1_ n2_
        (try clear hb)
        (try clear hb2)
        (try clear hk)
        (try clear hi)
        refine hK.out _ _ ⟨xC_ BK231.out 0, xC_ BK232.out 0, ((HB.out.cell (World.block_lt_of_cell? w _ hw233_0)).trans hw233_0), ((HB.out.cell (World.block_lt_of_cell? w _ hw233_1)).trans hw233_1), ((HB.out.cell (World.block_lt_of_cell? w _ hw233_2)).trans hw233_2), ((HB.out.cell (World.block_lt_of_cell? w _ hw233_3)).trans hw233_3), ((HB.out.cell (World.block_lt_of_cell? w _ hw233_4)).trans hw233_4), ((HB.out.cell (World.block_lt_of_cell? w _ hw233_5)).trans hw233_5), ((HB.out.cell (World.block_lt_of_cell? w _ hw233_6)).trans hw233_6), ((HB.out.cell (World.block_lt_of_cell? w _ hw234_0)).trans hw234_0), ((HB.out.cell (World.block_lt_of_cell? w _ hw234_1)).trans hw234_1), ((HB.out.cell (World.block_lt_of_cell? w _ hw234_2)).trans hw234_2), ((HB.out.cell (World.block_lt_of_cell? w _ hw234_3)).trans hw234_3), ((HB.out.cell (World.block_lt_of_cell? w _ hw234_4)).trans hw234_4), ((HB.out.cell (World.block_lt_of_cell? w _ hw234_5)).trans hw234_5), ((HB.out.cell (World.block_lt_of_cell? w _ hw234_6)).trans hw234_6)⟩ (fun hHeld => ?_)
        clear hK K
        refine norm_ (a' := ?_) ?_ ?_
        rotate_left
        ·
         show Act.put _ (some 30) _ = _
         simp only [Act.put, sA_, sZ_, sS_, i64_w, i32_w]
         rfl
        refine pure_ (i := 11) (N := some 31) (v := ?_) (a' := ?_) #[true, true, true, true, true, true, true, true, true, true, true, true] rfl rfl (any_of HT_.out (by kernel_rfl)) (fun _ _ _ h => h) (Or.inl ⟨by rfl, ?_⟩) ?_ ?_
        rotate_left
        ·
         intro w'
         go_simp
         with_reducible rfl
        rotate_left
        ·
         simp only [Act.put, sA_, sZ_, sS_, i64_w, i32_w]
         rfl
        refine done_ (done_of HT_.out (by kernel_rfl)) ?_
        try go_wp2
        go_roundg k1
        case measure => have := HK1.out; omega
        case rel => exact ⟨(wrap64 (x5_1 + 1)), E3_, H', ⟨by have := HK1.out; omega⟩, ⟨B1_ BK231.out⟩, ⟨B1_ BK232.out⟩, ⟨W2_⟩⟩
       ·
        replace c13 := Bool.eq_false_iff.mpr c13
        subst c13
        rw [if_neg (show ¬ (false = true) by decide)] at H
        obtain rfl := Option.some.inj H
        have hnb18 := NB231_232.out
        have hnc18 := NB232_231.out
        obtain ⟨z19_0, y19_0⟩ := cz1_ BK231.out
        try go_wp2
        have n0_ := Aside0.mk (bD_ BK231.out)
        have n1_ := Aside0.mk (bD_ BK232.out)
        have n2_ := Aside0.mk (zD_ HB.out)
        clear BK231
        clear BK232
        clear HB
        have BK231 := n0_
        have BK232 := n1_
        have HB := n2_
        clear n0_ n1_ n2_
        have p233 : 0 ≤ (x5_1 : Int) := oA_
        have q233 : x5_1 < (l0_0.length : Int) := oA_
        obtain ⟨ad233, A233_6, c233_6, e233, hx233_0, hx233_1, hx233_2, hx233_3, hx233_4, hx233_5, hx233_6, hl233_6, hi233_6⟩ := at_T38 HR0_0.out x5_1 p233 q233
        have hw233_6 := hx233_6
        have hw233_5 := hx233_5
        have hw233_4 := hx233_4
        have hw233_3 := hx233_3
        have hw233_2 := hx233_2
        have hw233_1 := hx233_1
        have hw233_0 := hx233_0
        cases e233
        replace hx233_0 := (HB.out.cell (World.block_lt_of_cell? w _ hx233_0)).trans hx233_0
        replace hx233_1 := (HB.out.cell (World.block_lt_of_cell? w _ hx233_1)).trans hx233_1
        replace hx233_2 := (HB.out.cell (World.block_lt_of_cell? w _ hx233_2)).trans hx233_2
        replace hx233_3 := (HB.out.cell (World.block_lt_of_cell? w _ hx233_3)).trans hx233_3
        replace hx233_4 := (HB.out.cell (World.block_lt_of_cell? w _ hx233_4)).trans hx233_4
        replace hx233_5 := (HB.out.cell (World.block_lt_of_cell? w _ hx233_5)).trans hx233_5
        replace hx233_6 := (HB.out.cell (World.block_lt_of_cell? w _ hx233_6)).trans hx233_6
        have HR233_6 := Aside0.mk hi233_6
        have HC233_6 := Aside0.mk hl233_6
        clear hi233_6 hl233_6
        replace p233 := eq_true p233
        replace q233 := eq_true q233
        have p234 : 0 ≤ (x5_1 : Int) := oA_
        have q234 : x5_1 < (l1_0.length : Int) := oA_
        obtain ⟨ad234, A234_6, c234_6, e234, hx234_0, hx234_1, hx234_2, hx234_3, hx234_4, hx234_5, hx234_6, hl234_6, hi234_6⟩ := at_T38 HR1_0.out x5_1 p234 q234
        have hw234_6 := hx234_6
        have hw234_5 := hx234_5
        have hw234_4 := hx234_4
        have hw234_3 := hx234_3
        have hw234_2 := hx234_2
        have hw234_1 := hx234_1
        have hw234_0 := hx234_0
        cases e234
        replace hx234_0 := (HB.out.cell (World.block_lt_of_cell? w _ hx234_0)).trans hx234_0
        replace hx234_1 := (HB.out.cell (World.block_lt_of_cell? w _ hx234_1)).trans hx234_1
        replace hx234_2 := (HB.out.cell (World.block_lt_of_cell? w _ hx234_2)).trans hx234_2
        replace hx234_3 := (HB.out.cell (World.block_lt_of_cell? w _ hx234_3)).trans hx234_3
        replace hx234_4 := (HB.out.cell (World.block_lt_of_cell? w _ hx234_4)).trans hx234_4
        replace hx234_5 := (HB.out.cell (World.block_lt_of_cell? w _ hx234_5)).trans hx234_5
        replace hx234_6 := (HB.out.cell (World.block_lt_of_cell? w _ hx234_6)).trans hx234_6
        have HR234_6 := Aside0.mk hi234_6
        have HC234_6 := Aside0.mk hl234_6
        clear hi234_6 hl234_6
        replace p234 := eq_true p234
        replace q234 := eq_true q234
        refine start_ (n := 12) (S := fun w' => w'.cell? ⟨gb231, 0, none⟩ = some (.slice (some ad233) l0_0.length c0_0) ∧ w'.cell? ⟨gb232, 0, none⟩ = some (.slice (some ad234) l1_0.length c1_0) ∧ w'.cell? (ad233.add ((x5_1).toNat * 7)) = some (.string ((rd_T38 l0_0 x5_1).f0)) ∧ w'.cell? ⟨(ad233.add ((x5_1).toNat * 7)).block, (ad233.add ((x5_1).toNat * 7)).off + 1, none⟩ = some (.int .i64 ((rd_T38 l0_0 x5_1).f1)) ∧ w'.cell? ⟨(ad233.add ((x5_1).toNat * 7)).block, (ad233.add ((x5_1).toNat * 7)).off + 2, none⟩ = some (.int .i64 ((rd_T38 l0_0 x5_1).f2)) ∧ w'.cell? ⟨(ad233.add ((x5_1).toNat * 7)).block, (ad233.add ((x5_1).toNat * 7)).off + 3, none⟩ = some (.int .i64 ((rd_T38 l0_0 x5_1).f3)) ∧ w'.cell? ⟨(ad233.add ((x5_1).toNat * 7)).block, (ad233.add ((x5_1).toNat * 7)).off + 4, none⟩ = some (.bool ((rd_T38 l0_0 x5_1).f4)) ∧ w'.cell? ⟨(ad233.add ((x5_1).toNat * 7)).block, (ad233.add ((x5_1).toNat * 7)).off + 5, none⟩ = some (.bool ((rd_T38 l0_0 x5_1).f5)) ∧ w'.cell? ⟨(ad233.add ((x5_1).toNat * 7)).block, (ad233.add ((x5_1).toNat * 7)).off + 6, none⟩ = some (.slice A233_6 ((rd_T38 l0_0 x5_1).f6).length c233_6) ∧ w'.cell? (ad234.add ((x5_1).toNat * 7)) = some (.string ((rd_T38 l1_0 x5_1).f0)) ∧ w'.cell? ⟨(ad234.add ((x5_1).toNat * 7)).block, (ad234.add ((x5_1).toNat * 7)).off + 1, none⟩ = some (.int .i64 ((rd_T38 l1_0 x5_1).f1)) ∧ w'.cell? ⟨(ad234.add ((x5_1).toNat * 7)).block, (ad234.add ((x5_1).toNat * 7)).off + 2, none⟩ = some (.int .i64 ((rd_T38 l1_0 x5_1).f2)) ∧ w'.cell? ⟨(ad234.add ((x5_1).toNat * 7)).block, (ad234.add ((x5_1).toNat * 7)).off + 3, none⟩ = some (.int .i64 ((rd_T38 l1_0 x5_1).f3)) ∧ w'.cell? ⟨(ad234.add ((x5_1).toNat * 7)).block, (ad234.add ((x5_1).toNat * 7)).off + 4, none⟩ = some (.bool ((rd_T38 l1_0 x5_1).f4)) ∧ w'.cell? ⟨(ad234.add ((x5_1).toNat * 7)).block, (ad234.add ((x5_1).toNat * 7)).off + 5, none⟩ = some (.bool ((rd_T38 l1_0 x5_1).f5)) ∧ w'.cell? ⟨(ad234.add ((x5_1).toNat * 7)).block, (ad234.add ((x5_1).toNat * 7)).off + 6, none⟩ = some (.slice A234_6 ((rd_T38 l1_0 x5_1).f6).length c234_6)) (ds := []) #[false, false, false, false, false, false, false, false, false, false, false, false] (by kernel_rfl) rfl rfl ⟨xC_ BK231.out 0, xC_ BK232.out 0, ((HB.out.cell (World.block_lt_of_cell? w _ hw233_0)).trans hw233_0), ((HB.out.cell (World.block_lt_of_cell? w _ hw233_1)).trans hw233_1), ((HB.out.cell (World.block_lt_of_cell? w _ hw233_2)).trans hw233_2), ((HB.out.cell (World.block_lt_of_cell? w _ hw233_3)).trans hw233_3), ((HB.out.cell (World.block_lt_of_cell? w _ hw233_4)).trans hw233_4), ((HB.out.cell (World.block_lt_of_cell? w _ hw233_5)).trans hw233_5), ((HB.out.cell (World.block_lt_of_cell? w _ hw233_6)).trans hw233_6), ((HB.out.cell (World.block_lt_of_cell? w _ hw234_0)).trans hw234_0), ((HB.out.cell (World.block_lt_of_cell? w _ hw234_1)).trans hw234_1), ((HB.out.cell (World.block_lt_of_cell? w _ hw234_2)).trans hw234_2), ((HB.out.cell (World.block_lt_of_cell? w _ hw234_3)).trans hw234_3), ((HB.out.cell (World.block_lt_of_cell? w _ hw234_4)).trans hw234_4), ((HB.out.cell (World.block_lt_of_cell? w _ hw234_5)).trans hw234_5), ((HB.out.cell (World.block_lt_of_cell? w _ hw234_6)).trans hw234_6)⟩ (fun hHeld => ?_); refine with_tabW pantryref09_Same.tab6 pantryref09_Same.bits6 (fun HT_ HW_ => ?_)
        generalize wr.drew = w20 at BK231 BK232 HB HR233_6 HR234_6 hx233_0 hx233_1 hx233_2 hx233_3 hx233_4 hx233_5 hx233_6 hx234_0 hx234_1 hx234_2 hx234_3 hx234_4 hx234_5 hx234_6 hHeld ⊢
        refine pure_ (i := 0) (N := some 20) (v := ?_) (a' := ?_) #[true, false, false, false, false, false, false, false, false, false, false, false] rfl rfl (any_of HT_.out (by kernel_rfl)) (fun _ _ _ h => h) (Or.inl ⟨by rfl, ?_⟩) ?_ ?_
        rotate_left
        ·
         intro w'
         go_simp
         with_reducible rfl
        rotate_left
        ·
         simp only [Act.put, sA_, sZ_, sS_, i64_w, i32_w]
         rfl
        refine pure_ (i := 2) (N := some 22) (v := ?_) (a' := ?_) #[true, false, true, false, false, false, false, false, false, false, false, false] rfl rfl (any_of HT_.out (by kernel_rfl)) (fun _ _ _ h => h) (Or.inl ⟨by rfl, ?_⟩) ?_ ?_
        rotate_left
        ·
         intro w'
         go_simp
         with_reducible rfl
        rotate_left
        ·
         simp only [Act.put, sA_, sZ_, sS_, i64_w, i32_w]
         rfl
        refine pure_ (i := 5) (N := some 25) (v := ?_) (a' := ?_) #[true, false, true, false, false, true, false, false, false, false, false, false] rfl rfl (any_of HT_.out (by kernel_rfl)) (fun _ _ _ h => h) (Or.inl ⟨by rfl, ?_⟩) ?_ ?_
        rotate_left
        ·
         intro w'
         go_simp
         with_reducible rfl
        rotate_left
        ·
         simp only [Act.put, sA_, sZ_, sS_, i64_w, i32_w]
         rfl
        refine pure_ (i := 7) (N := some 27) (v := ?_) (a' := ?_) #[true, false, true, false, false, true, false, true, false, false, false, false] rfl rfl (any_of HT_.out (by kernel_rfl)) (fun _ _ _ h => h) (Or.inl ⟨by rfl, ?_⟩) ?_ ?_
        rotate_left
        ·
         intro w'
         go_simp
         with_reducible rfl
        rotate_left
        ·
         simp only [Act.put, sA_, sZ_, sS_, i64_w, i32_w]
         rfl
        refine take_ (i := 1) (N := some 21) (v := ?_) (a' := ?_) #[true, true, true, false, false, true, false, true, false, false, false, false] rfl rfl (take_ofW HT_.out HW_.out (by kernel_rfl)) (fun _ _ _ h => h) (Or.inl ⟨by rfl, ?_⟩) hHeld ?_ ?_
        rotate_left
        ·
         rintro w' ⟨s0, s1, s2, s3, s4, s5, s6, s7, s8, s9, s10, s11, s12, s13, s14, s15⟩
         go_simp
         with_reducible rfl
        rotate_left
        ·
         simp only [Act.put, sA_, sZ_, sS_, i64_w, i32_w]
         rfl
        refine pure_ (i := 3) (N := some 23) (v := ?_) (a' := ?_) #[true, true, true, true, false, true, false, true, false, false, false, false] rfl rfl (any_of HT_.out (by kernel_rfl)) (fun _ _ _ h => h) (Or.inl ⟨by rfl, ?_⟩) ?_ ?_
        rotate_left
        ·
         intro w'
         go_simp
         with_reducible rfl
        rotate_left
        ·
         simp only [Act.put, sA_, sZ_, sS_, i64_w, i32_w]
         rfl
        refine take_ (i := 4) (N := some 24) (v := ?_) (a' := ?_) #[true, true, true, true, true, true, false, true, false, false, false, false] rfl rfl (take_ofW HT_.out HW_.out (by kernel_rfl)) (fun _ _ _ h => h) (Or.inl ⟨by rfl, ?_⟩) hHeld ?_ ?_
        rotate_left
        ·
         rintro w' ⟨s0, s1, s2, s3, s4, s5, s6, s7, s8, s9, s10, s11, s12, s13, s14, s15⟩
         go_simp
         with_reducible rfl
        rotate_left
        ·
         simp only [Act.put, sA_, sZ_, sS_, i64_w, i32_w]
         rfl
        refine take_ (i := 6) (N := some 26) (v := ?_) (a' := ?_) #[true, true, true, true, true, true, true, true, false, false, false, false] rfl rfl (take_ofW HT_.out HW_.out (by kernel_rfl)) (fun _ _ _ h => h) (Or.inl ⟨by rfl, ?_⟩) hHeld ?_ ?_
        rotate_left
        ·
         rintro w' ⟨s0, s1, s2, s3, s4, s5, s6, s7, s8, s9, s10, s11, s12, s13, s14, s15⟩
         go_simp
         with_reducible rfl
        rotate_left
        ·
         simp only [Act.put, sA_, sZ_, sS_, i64_w, i32_w]
         rfl
        refine pure_ (i := 8) (N := some 28) (v := ?_) (a' := ?_) #[true, true, true, true, true, true, true, true, true, false, false, false] rfl rfl (any_of HT_.out (by kernel_rfl)) (fun _ _ _ h => h) (Or.inl ⟨by rfl, ?_⟩) ?_ ?_
        rotate_left
        ·
         intro w'
         go_simp
         with_reducible rfl
        rotate_left
        ·
         simp only [Act.put, sA_, sZ_, sS_, i64_w, i32_w]
         rfl
        refine take_ (i := 9) (N := some 29) (v := ?_) (a' := ?_) #[true, true, true, true, true, true, true, true, true, true, false, false] rfl rfl (take_ofW HT_.out HW_.out (by kernel_rfl)) (fun _ _ _ h => h) (Or.inl ⟨by rfl, ?_⟩) hHeld ?_ ?_
        rotate_left
        ·
         rintro w' ⟨s0, s1, s2, s3, s4, s5, s6, s7, s8, s9, s10, s11, s12, s13, s14, s15⟩
         go_simp
         with_reducible rfl
        rotate_left
        ·
         simp only [Act.put, sA_, sZ_, sS_, i64_w, i32_w]
         rfl
        refine one_ (i := 10) (N := some 30) #[true, true, true, true, true, true, true, true, true, true, true, false] rfl rfl (one_of HT_.out (by kernel_rfl)) (by decide) (fun K hK => ?_)
        refine goes_ Tryd.func13 (by kernel_rfl) rfl #[.agg #[.string ((rd_T38 l0_0 x5_1).f0), .int .i64 ((rd_T38 l0_0 x5_1).f1), .int .i64 ((rd_T38 l0_0 x5_1).f2), .int .i64 ((rd_T38 l0_0 x5_1).f3), .bool ((rd_T38 l0_0 x5_1).f4), .bool ((rd_T38 l0_0 x5_1).f5), .slice A233_6 ((rd_T38 l0_0 x5_1).f6).length c233_6], .agg #[.string ((rd_T38 l1_0 x5_1).f0), .int .i64 ((rd_T38 l1_0 x5_1).f1), .int .i64 ((rd_T38 l1_0 x5_1).f2), .int .i64 ((rd_T38 l1_0 x5_1).f3), .bool ((rd_T38 l1_0 x5_1).f4), .bool ((rd_T38 l1_0 x5_1).f5), .slice A234_6 ((rd_T38 l1_0 x5_1).f6).length c234_6]] (by rfl) rfl rfl T1_ ?_
        with_reducible refine (pantryref09_Alike.calls k1 ((rd_T38 l0_0 x5_1).f0) ((rd_T38 l0_0 x5_1).f1) ((rd_T38 l0_0 x5_1).f2) ((rd_T38 l0_0 x5_1).f3) ((rd_T38 l0_0 x5_1).f4) ((rd_T38 l0_0 x5_1).f5) _ _ ((rd_T38 l0_0 x5_1).f6) ((rd_T38 l1_0 x5_1).f0) ((rd_T38 l1_0 x5_1).f1) ((rd_T38 l1_0 x5_1).f2) ((rd_T38 l1_0 x5_1).f3) ((rd_T38 l1_0 x5_1).f4) ((rd_T38 l1_0 x5_1).f5) _ _ ((rd_T38 l1_0 x5_1).f6) false _ ?side1 ?side2 ?side3 ?side4 A12.out).mono ?_
        (case side1 => exact C1_ ((Kd.C_below HR233_6.out HB.out)))
        (case side2 => exact HC233_6.out)
        (case side3 => exact C1_ ((Kd.C_below HR234_6.out HB.out)))
        (case side4 => exact HC234_6.out)
        rintro e w21 ⟨rfl, hb⟩
        refine ⟨_, rfl, ?_⟩
        have n0_ := Aside0.mk (blk_below (B1_ BK231.out) hb)
        have n1_ := Aside0.mk (blk_below (B1_ BK232.out) hb)
        have n2_ := Aside0.mk (below_step W2_ hb)
        clear BK231
        clear BK232
        clear HB
        have BK231 := n0_
        have BK232 := n1_
        have HB := n2_
        clear n0_ n1_ n2_
        (try clear hb)
        (try clear hb2)
        (try clear hk)
        (try clear hi)
        refine hK.out _ _ ⟨xC_ BK231.out 0, xC_ BK232.out 0, ((HB.out.cell (World.block_lt_of_cell? w _ hw233_0)).trans hw233_0), ((HB.out.cell (World.block_lt_of_cell? w _ hw233_1)).trans hw233_1), ((HB.out.cell (World.block_lt_of_cell? w _ hw233_2)).trans hw233_2), ((HB.out.cell (World.block_lt_of_cell? w _ hw233_3)).trans hw233_3), ((HB.out.cell (World.block_lt_of_cell? w _ hw233_4)).trans hw233_4), ((HB.out.cell (World.block_lt_of_cell? w _ hw233_5)).trans hw233_5), ((HB.out.cell (World.block_lt_of_cell? w _ hw233_6)).trans hw233_6), ((HB.out.cell (World.block_lt_of_cell? w _ hw234_0)).trans hw234_0), ((HB.out.cell (World.block_lt_of_cell? w _ hw234_1)).trans hw234_1), ((HB.out.cell (World.block_lt_of_cell? w _ hw234_2)).trans hw234_2), ((HB.out.cell (World.block_lt_of_cell? w _ hw234_3)).trans hw234_3), ((HB.out.cell (World.block_lt_of_cell? w _ hw234_4)).trans hw234_4), ((HB.out.cell (World.block_lt_of_cell? w _ hw234_5)).trans hw234_5), ((HB.out.cell (World.block_lt_of_cell? w _ hw234_6)).trans hw234_6)⟩ (fun hHeld => ?_)
        clear hK K
        refine norm_ (a' := ?_) ?_ ?_
        rotate_left
        ·
         show Act.put _ (some 30) _ = _
         simp only [Act.put, sA_, sZ_, sS_, i64_w, i32_w]
         rfl
        refine pure_ (i := 11) (N := some 31) (v := ?_) (a' := ?_) #[true, true, true, true, true, true, true, true, true, true, true, true] rfl rfl (any_of HT_.out (by kernel_rfl)) (fun _ _ _ h => h) (Or.inl ⟨by rfl, ?_⟩) ?_ ?_
        rotate_left
        ·
         intro w'
         go_simp
         with_reducible rfl
        rotate_left
        ·
         simp only [Act.put, sA_, sZ_, sS_, i64_w, i32_w]
         rfl
        refine done_ (done_of HT_.out (by kernel_rfl)) ?_
        try go_wp2
        go_ret
        exact ⟨E1_, W2_⟩
      ·
       rw [if_neg c11] at H
       exact absurd H (by simp)
     ·
      rw [if_neg c10] at H
      exact absurd H (by simp)
    ·
     rw [if_neg c9] at H
     have c9b0 : decide (x5_1 < (l0_0.length : Int)) = false := decide_eq_false c9
     clear c9
     obtain rfl := Option.some.inj H
     have hnb22 := NB231_232.out
     have hnc22 := NB232_231.out
     obtain ⟨z23_0, y23_0⟩ := cz1_ BK231.out
     go_wp2
     go_ret
     exact ⟨E1_, W2_⟩
 ·
  rw [if_neg c3] at H
  have c3b0 : ((l0_0.length : Int) == (l1_0.length : Int)) = false := beq_eq_false_iff_ne.mpr c3
  have c3b1 : ((l0_0.length : Int) != (l1_0.length : Int)) = true := bne_iff_ne.mpr c3
  have c3b2 : (l0_0.length == l1_0.length) = false := by first | simpa using c3 | (simp at c3 ⊢; omega)
  obtain rfl := Option.some.inj H
  go_enter Tryd.func17, Tryd.ntmps17
  go_wp2_with (first | ((with_reducible refine gate_dst (N := 2) rfl ?_); refine box_event ?hg (N := 2) ?hd (cs := #[.slice A0_0 l0_0.length c0_0]) (t := 34) ?hr ?_; (case hd | hg => rfl); (case hr => exact S1_); intro gb231 hg w24 hbox hb; have BK231 := Aside0.mk (hbox); have GW231 := Aside0.mk ((Z1_ : w.heap.size ≤ gb231)); have GE231 := Aside0.mk ((Z1_ : w.heap.size ≤ gb231)); replace HB := y1_ hb; clear hb hbox hg) | ((with_reducible refine gate_dst (N := 3) rfl ?_); refine box_event ?hg (N := 3) ?hd (cs := #[.slice A1_0 l1_0.length c1_0]) (t := 34) ?hr ?_; (case hd | hg => rfl); (case hr => exact S1_); intro gb232 hg w25 hbox hb; have BK232 := Aside0.mk (hbox); have GW232 := Aside0.mk ((Z2_ : w.heap.size ≤ gb232)); have GE232 := Aside0.mk ((Z2_ : w.heap.size ≤ gb232)); have NB231_232 := Aside0.mk ((by rw [hg]; exact Nat.ne_of_lt (blk_lt (B1_ BK231.out)) : gb231 ≠ gb232)); have NB232_231 := Aside0.mk ((by rw [hg]; exact Nat.ne_of_gt (blk_lt (B1_ BK231.out)) : gb232 ≠ gb231)); replace BK231 := yB_ BK231 hb; replace HB := y2_ hb; clear hb hbox hg; have hnb26 := NB231_232.out; have hnc26 := NB232_231.out; obtain ⟨z27_0, y27_0⟩ := cz1_ BK231.out; obtain ⟨z28_0, y28_0⟩ := cz1_ BK232.out))
  go_ret
  exact ⟨E1_, W2_⟩

end Go.Proofs.YtfcifigemiafgaaDoor.PAll
