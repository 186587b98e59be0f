import Derived.Deep.Cut
import Derived.Deep.CutRange
import Derived.Deep.CutBlock
import Derived.Test.YtfcifigemiafgaaDoorPAllx0
namespace Go.Proofs.YtfcifigemiafgaaDoor.PAll
open Go.RowKit Go.Proofs.YtfcifigemiafgaaDoorW.PrintWords Go.Proofs.YtfcifigemiafgaaDoorW.PrintLast Go.Proofs.YtfcifigemiafgaaDoorW.PrintMore
attribute [local go_sem] max2_int min2_int max_two min_two max_three min_three max_four min_four   -- for this text's walks alone
set_option linter.unusedVariables false
set_option linter.unusedSimpArgs false

/-! ### pantryref09_Alike: function 13 -/
mutual
def pantryref09_Alike.j0 : Nat → Bool → ByteArray → Int → Int → Int → Bool → Bool → List ByteArray → ByteArray → Int → Int → Int → Bool → Bool → List ByteArray → Option (Bool)
 | 0, _, _, _, _, _, _, _, _, _, _, _, _, _, _, _ => none
 | k + 1, x54, x228000, x228001, x228002, x228003, x228004, x228005, x228006, x229000, x229001, x229002, x229003, x229004, x229005, x229006 => if x54 = true then (some false) else (pantryref09_Alike.l0 k 0 x228000 x228001 x228002 x228003 x228004 x228005 x228006 x229000 x229001 x229002 x229003 x229004 x229005 x229006)
def pantryref09_Alike.l0 : Nat → Int → ByteArray → Int → Int → Int → Bool → Bool → List ByteArray → ByteArray → Int → Int → Int → Bool → Bool → List ByteArray → Option (Bool)
 | 0, _, _, _, _, _, _, _, _, _, _, _, _, _, _, _ => none
 | k + 1, x5, x228000, x228001, x228002, x228003, x228004, x228005, x228006, x229000, x229001, x229002, x229003, x229004, x229005, x229006 => if x5 < (x228006.length : Int) then (if 0 ≤ x5 then (if x5 < (x229006.length : Int) then (if (rdOf ByteArray.empty x228006 x5).toList = (rdOf ByteArray.empty x229006 x5).toList then (pantryref09_Alike.l0 k (wrap64 (x5 + 1)) x228000 x228001 x228002 x228003 x228004 x228005 x228006 x229000 x229001 x229002 x229003 x229004 x229005 x229006) else (some false)) else (none)) else (none)) else (some true)
end
def pantryref09_Alike.f (k : Nat) (a0_0 : ByteArray) (a0_1 : Int) (a0_2 : Int) (a0_3 : Int) (a0_4 : Bool) (a0_5 : Bool) (l0_6 : List ByteArray) (a1_0 : ByteArray) (a1_1 : Int) (a1_2 : Int) (a1_3 : Int) (a1_4 : Bool) (a1_5 : Bool) (l1_6 : List ByteArray) : Option (Bool) := if a0_0.toList = a1_0.toList then (if a0_1 = a1_1 then (if a0_2 = a1_2 then (if a0_3 = a1_3 then (if (a0_4 != a1_4) = true then (pantryref09_Alike.j0 k true a0_0 a0_1 a0_2 a0_3 a0_4 a0_5 l0_6 a1_0 a1_1 a1_2 a1_3 a1_4 a1_5 l1_6) else (if (a0_5 != a1_5) = true then (pantryref09_Alike.j0 k true a0_0 a0_1 a0_2 a0_3 a0_4 a0_5 l0_6 a1_0 a1_1 a1_2 a1_3 a1_4 a1_5 l1_6) else (pantryref09_Alike.j0 k ((l0_6.length : Int) != (l1_6.length : Int)) a0_0 a0_1 a0_2 a0_3 a0_4 a0_5 l0_6 a1_0 a1_1 a1_2 a1_3 a1_4 a1_5 l1_6))) else (pantryref09_Alike.j0 k true a0_0 a0_1 a0_2 a0_3 a0_4 a0_5 l0_6 a1_0 a1_1 a1_2 a1_3 a1_4 a1_5 l1_6)) else (pantryref09_Alike.j0 k true a0_0 a0_1 a0_2 a0_3 a0_4 a0_5 l0_6 a1_0 a1_1 a1_2 a1_3 a1_4 a1_5 l1_6)) else (pantryref09_Alike.j0 k true a0_0 a0_1 a0_2 a0_3 a0_4 a0_5 l0_6 a1_0 a1_1 a1_2 a1_3 a1_4 a1_5 l1_6)) else (pantryref09_Alike.j0 k true a0_0 a0_1 a0_2 a0_3 a0_4 a0_5 l0_6 a1_0 a1_1 a1_2 a1_3 a1_4 a1_5 l1_6)
theorem pantryref09_Alike.mono_l : ∀ k, (∀ y0 y1 y2 y3 y4 y5 y6 y7 y8 y9 y10 y11 y12 y13 y14, LeO (pantryref09_Alike.j0 k y0 y1 y2 y3 y4 y5 y6 y7 y8 y9 y10 y11 y12 y13 y14) (pantryref09_Alike.j0 (k + 1) y0 y1 y2 y3 y4 y5 y6 y7 y8 y9 y10 y11 y12 y13 y14)) ∧ (∀ y0 y1 y2 y3 y4 y5 y6 y7 y8 y9 y10 y11 y12 y13 y14, LeO (pantryref09_Alike.l0 k y0 y1 y2 y3 y4 y5 y6 y7 y8 y9 y10 y11 y12 y13 y14) (pantryref09_Alike.l0 (k + 1) y0 y1 y2 y3 y4 y5 y6 y7 y8 y9 y10 y11 y12 y13 y14))
 | 0 => ⟨fun _ _ _ _ _ _ _ _ _ _ _ _ _ _ _ r h => by simp [pantryref09_Alike.j0] at h, fun _ _ _ _ _ _ _ _ _ _ _ _ _ _ _ r h => by simp [pantryref09_Alike.l0] at h⟩
 | k + 1 => by
  obtain ⟨ih0, ih1⟩ := pantryref09_Alike.mono_l k
  refine ⟨?_, ?_⟩
  ·
   intro y0 y1 y2 y3 y4 y5 y6 y7 y8 y9 y10 y11 y12 y13 y14
   unfold pantryref09_Alike.j0
   repeat' (with_reducible first | exact ih0 _ _ _ _ _ _ _ _ _ _ _ _ _ _ _ | exact ih1 _ _ _ _ _ _ _ _ _ _ _ _ _ _ _ | exact lR_ | refine LeO.ite ?_ ?_ | refine LeO.bind ?_ (fun _ => ?_))
  ·
   intro y0 y1 y2 y3 y4 y5 y6 y7 y8 y9 y10 y11 y12 y13 y14
   unfold pantryref09_Alike.l0
   repeat' (with_reducible first | exact ih0 _ _ _ _ _ _ _ _ _ _ _ _ _ _ _ | exact ih1 _ _ _ _ _ _ _ _ _ _ _ _ _ _ _ | exact lR_ | refine LeO.ite ?_ ?_ | refine LeO.bind ?_ (fun _ => ?_))
theorem pantryref09_Alike.mono : ∀ a0 a1 a2 a3 a4 a5 a6 a7 a8 a9 a10 a11 a12 a13 k, LeO (pantryref09_Alike.f k a0 a1 a2 a3 a4 a5 a6 a7 a8 a9 a10 a11 a12 a13) (pantryref09_Alike.f (k + 1) a0 a1 a2 a3 a4 a5 a6 a7 a8 a9 a10 a11 a12 a13) := by
 intro a0 a1 a2 a3 a4 a5 a6 a7 a8 a9 a10 a11 a12 a13 k
 obtain ⟨ih0, ih1⟩ := pantryref09_Alike.mono_l k
 unfold pantryref09_Alike.f
 repeat' (with_reducible first | exact ih0 _ _ _ _ _ _ _ _ _ _ _ _ _ _ _ | exact ih1 _ _ _ _ _ _ _ _ _ _ _ _ _ _ _ | exact lR_ | refine LeO.ite ?_ ?_ | refine LeO.bind ?_ (fun _ => ?_))
set_option maxHeartbeats 8000000 in
set_option maxRecDepth 100000 in
theorem pantryref09_Alike.calls (k : Nat) (a0_0 : ByteArray) (a0_1 : Int) (a0_2 : Int) (a0_3 : Int) (a0_4 : Bool) (a0_5 : Bool) (A0_6 : Option Addr) (c0_6 : Nat) (l0_6 : List ByteArray) (a1_0 : ByteArray) (a1_1 : Int) (a1_2 : Int) (a1_3 : Int) (a1_4 : Bool) (a1_5 : Bool) (A1_6 : Option Addr) (c1_6 : Nat) (l1_6 : List ByteArray) (r : Bool) (w : World) (hr0_6 : Kd.C Kd.string w A0_6 l0_6.length l0_6) (hc0_6 : l0_6.length ≤ c0_6) (hr1_6 : Kd.C Kd.string w A1_6 l1_6.length l1_6) (hc1_6 : l1_6.length ≤ c1_6) (h : pantryref09_Alike.f k a0_0 a0_1 a0_2 a0_3 a0_4 a0_5 l0_6 a1_0 a1_1 a1_2 a1_3 a1_4 a1_5 l1_6 = some r) :
  Calls Tryd.prog 13 #[.agg #[.string a0_0, .int .i64 a0_1, .int .i64 a0_2, .int .i64 a0_3, .bool a0_4, .bool a0_5, .slice A0_6 l0_6.length c0_6], .agg #[.string a1_0, .int .i64 a1_1, .int .i64 a1_2, .int .i64 a1_3, .bool a1_4, .bool a1_5, .slice A1_6 l1_6.length c1_6]] w fun e w' => e = .returned (.bool r) ∧ Below w.heap.size w w' := by
 have hu38 := Tryd.underlying38
 have HR0_6 := Aside0.mk hr0_6
 have HC0_6 := Aside0.mk hc0_6
 clear hr0_6 hc0_6
 have HR1_6 := Aside0.mk hr1_6
 have HC1_6 := Aside0.mk hc1_6
 clear hr1_6 hc1_6
 have HB := Aside0.mk (Below.refl w.heap.size w)
 have H : (if a0_0.toList = a1_0.toList then (if a0_1 = a1_1 then (if a0_2 = a1_2 then (if a0_3 = a1_3 then (if (a0_4 != a1_4) = true then (pantryref09_Alike.j0 k true a0_0 a0_1 a0_2 a0_3 a0_4 a0_5 l0_6 a1_0 a1_1 a1_2 a1_3 a1_4 a1_5 l1_6) else (if (a0_5 != a1_5) = true then (pantryref09_Alike.j0 k true a0_0 a0_1 a0_2 a0_3 a0_4 a0_5 l0_6 a1_0 a1_1 a1_2 a1_3 a1_4 a1_5 l1_6) else (pantryref09_Alike.j0 k ((l0_6.length : Int) != (l1_6.length : Int)) a0_0 a0_1 a0_2 a0_3 a0_4 a0_5 l0_6 a1_0 a1_1 a1_2 a1_3 a1_4 a1_5 l1_6))) else (pantryref09_Alike.j0 k true a0_0 a0_1 a0_2 a0_3 a0_4 a0_5 l0_6 a1_0 a1_1 a1_2 a1_3 a1_4 a1_5 l1_6)) else (pantryref09_Alike.j0 k true a0_0 a0_1 a0_2 a0_3 a0_4 a0_5 l0_6 a1_0 a1_1 a1_2 a1_3 a1_4 a1_5 l1_6)) else (pantryref09_Alike.j0 k true a0_0 a0_1 a0_2 a0_3 a0_4 a0_5 l0_6 a1_0 a1_1 a1_2 a1_3 a1_4 a1_5 l1_6)) else (pantryref09_Alike.j0 k true a0_0 a0_1 a0_2 a0_3 a0_4 a0_5 l0_6 a1_0 a1_1 a1_2 a1_3 a1_4 a1_5 l1_6)) = some r := h
 clear h
 have HC3 := Aside0.mk H
 clear H
 go_enter Tryd.func13, Tryd.ntmps13
 go_upto_region 1 with (first | ((with_reducible refine gate_dst (N := 2) rfl ?_); (try (refine gate_guard (by rfl) ?_; dsimp only)); refine box_event ?hg (N := 2) ?hd (cs := #[.string a0_0, .int .i64 a0_1, .int .i64 a0_2, .int .i64 a0_3, .bool a0_4, .bool a0_5, .slice A0_6 l0_6.length c0_6]) (t := 38) ?hr ?_; (case hd | hg => rfl); (case hr => exact S1_); intro gb227 hg w4 hbox hb; have BK227 := Aside0.mk (hbox); have GW227 := Aside0.mk ((Z1_ : w.heap.size ≤ gb227)); have GE227 := Aside0.mk ((Z1_ : w.heap.size ≤ gb227)); replace HB := y1_ hb; clear hb hbox hg) | ((with_reducible refine gate_dst (N := 3) rfl ?_); (try (refine gate_guard (by rfl) ?_; dsimp only)); refine box_event ?hg (N := 3) ?hd (cs := #[.string a1_0, .int .i64 a1_1, .int .i64 a1_2, .int .i64 a1_3, .bool a1_4, .bool a1_5, .slice A1_6 l1_6.length c1_6]) (t := 38) ?hr ?_; (case hd | hg => rfl); (case hr => exact S1_); intro gb228 hg w5 hbox hb; have BK228 := Aside0.mk (hbox); have GW228 := Aside0.mk ((Z2_ : w.heap.size ≤ gb228)); have GE228 := Aside0.mk ((Z2_ : w.heap.size ≤ gb228)); have NB227_228 := Aside0.mk ((by rw [hg]; exact Nat.ne_of_lt (blk_lt (B1_ BK227.out)) : gb227 ≠ gb228)); have NB228_227 := Aside0.mk ((by rw [hg]; exact Nat.ne_of_gt (blk_lt (B1_ BK227.out)) : gb228 ≠ gb227)); replace BK227 := yB_ BK227 hb; replace HB := y2_ hb; clear hb hbox hg))
 repeat (go_quiet (first | ((with_reducible refine gate_dst (N := 2) rfl ?_); (try (refine gate_guard (by rfl) ?_; dsimp only)); refine box_event ?hg (N := 2) ?hd (cs := #[.string a0_0, .int .i64 a0_1, .int .i64 a0_2, .int .i64 a0_3, .bool a0_4, .bool a0_5, .slice A0_6 l0_6.length c0_6]) (t := 38) ?hr ?_; (case hd | hg => rfl); (case hr => exact S1_); intro gb227 hg w4 hbox hb; have BK227 := Aside0.mk (hbox); have GW227 := Aside0.mk ((Z1_ : w.heap.size ≤ gb227)); have GE227 := Aside0.mk ((Z1_ : w.heap.size ≤ gb227)); replace HB := y1_ hb; clear hb hbox hg) | ((with_reducible refine gate_dst (N := 3) rfl ?_); (try (refine gate_guard (by rfl) ?_; dsimp only)); refine box_event ?hg (N := 3) ?hd (cs := #[.string a1_0, .int .i64 a1_1, .int .i64 a1_2, .int .i64 a1_3, .bool a1_4, .bool a1_5, .slice A1_6 l1_6.length c1_6]) (t := 38) ?hr ?_; (case hd | hg => rfl); (case hr => exact S1_); intro gb228 hg w5 hbox hb; have BK228 := Aside0.mk (hbox); have GW228 := Aside0.mk ((Z2_ : w.heap.size ≤ gb228)); have GE228 := Aside0.mk ((Z2_ : w.heap.size ≤ gb228)); have NB227_228 := Aside0.mk ((by rw [hg]; exact Nat.ne_of_lt (blk_lt (B1_ BK227.out)) : gb227 ≠ gb228)); have NB228_227 := Aside0.mk ((by rw [hg]; exact Nat.ne_of_gt (blk_lt (B1_ BK227.out)) : gb228 ≠ gb227)); replace BK227 := yB_ BK227 hb; replace HB := y2_ hb; clear hb hbox hg)); go_upto_region 1 with (first | ((with_reducible refine gate_dst (N := 2) rfl ?_); (try (refine gate_guard (by rfl) ?_; dsimp only)); refine box_event ?hg (N := 2) ?hd (cs := #[.string a0_0, .int .i64 a0_1, .int .i64 a0_2, .int .i64 a0_3, .bool a0_4, .bool a0_5, .slice A0_6 l0_6.length c0_6]) (t := 38) ?hr ?_; (case hd | hg => rfl); (case hr => exact S1_); intro gb227 hg w4 hbox hb; have BK227 := Aside0.mk (hbox); have GW227 := Aside0.mk ((Z1_ : w.heap.size ≤ gb227)); have GE227 := Aside0.mk ((Z1_ : w.heap.size ≤ gb227)); replace HB := y1_ hb; clear hb hbox hg) | ((with_reducible refine gate_dst (N := 3) rfl ?_); (try (refine gate_guard (by rfl) ?_; dsimp only)); refine box_event ?hg (N := 3) ?hd (cs := #[.string a1_0, .int .i64 a1_1, .int .i64 a1_2, .int .i64 a1_3, .bool a1_4, .bool a1_5, .slice A1_6 l1_6.length c1_6]) (t := 38) ?hr ?_; (case hd | hg => rfl); (case hr => exact S1_); intro gb228 hg w5 hbox hb; have BK228 := Aside0.mk (hbox); have GW228 := Aside0.mk ((Z2_ : w.heap.size ≤ gb228)); have GE228 := Aside0.mk ((Z2_ : w.heap.size ≤ gb228)); have NB227_228 := Aside0.mk ((by rw [hg]; exact Nat.ne_of_lt (blk_lt (B1_ BK227.out)) : gb227 ≠ gb228)); have NB228_227 := Aside0.mk ((by rw [hg]; exact Nat.ne_of_gt (blk_lt (B1_ BK227.out)) : gb228 ≠ gb227)); replace BK227 := yB_ BK227 hb; replace HB := y2_ hb; clear hb hbox hg)))
 (try simp only [Act.put, sA_, sZ_, sS_])
 go_cut [54] (fun v54 wc => ∃ (kq : Nat) (x54_2 : Bool), v54 = .bool x54_2 ∧ Aside0 (pantryref09_Alike.j0 kq x54_2 a0_0 a0_1 a0_2 a0_3 a0_4 a0_5 l0_6 a1_0 a1_1 a1_2 a1_3 a1_4 a1_5 l1_6 = some r) ∧ Aside0 (kq ≤ k) ∧ Aside0 (wc.heap[gb227]? = some (.cells #[.string a0_0, .int .i64 a0_1, .int .i64 a0_2, .int .i64 a0_3, .bool a0_4, .bool a0_5, (.slice A0_6 l0_6.length c0_6)] 38 (0, 0))) ∧ Aside0 (wc.heap[gb228]? = some (.cells #[.string a1_0, .int .i64 a1_1, .int .i64 a1_2, .int .i64 a1_3, .bool a1_4, .bool a1_5, (.slice A1_6 l1_6.length c1_6)] 38 (0, 0))) ∧ Aside0 (Below w.heap.size w wc))
 case first =>
  have H := HC3.out
  clear HC3
  by_cases c6 : a0_0.toList = a1_0.toList
  ·
   rw [if_pos c6] at H
   have c6b0 : (a0_0.toList == a1_0.toList) = true := beq_iff_eq.mpr c6
   have c6b1 : (a0_0.toList != a1_0.toList) = false := bne_eq_false_iff_eq.mpr c6
   clear c6
   (first | rw [c6b0] | (simp only [i64_w, i32_w]; rw [c6b0]) | skip)
   by_cases c7 : a0_1 = a1_1
   ·
    rw [if_pos c7] at H
    have c7b0 : (a0_1 == a1_1) = true := beq_iff_eq.mpr c7
    have c7b1 : (a0_1 != a1_1) = false := bne_eq_false_iff_eq.mpr c7
    clear c7
    by_cases c8 : a0_2 = a1_2
    ·
     rw [if_pos c8] at H
     have c8b0 : (a0_2 == a1_2) = true := beq_iff_eq.mpr c8
     have c8b1 : (a0_2 != a1_2) = false := bne_eq_false_iff_eq.mpr c8
     clear c8
     by_cases c9 : a0_3 = a1_3
     ·
      rw [if_pos c9] at H
      have c9b0 : (a0_3 == a1_3) = true := beq_iff_eq.mpr c9
      have c9b1 : (a0_3 != a1_3) = false := bne_eq_false_iff_eq.mpr c9
      clear c9
      by_cases c10 : (a0_4 != a1_4) = true
      ·
       rw [if_pos c10] at H
       have c10b0 : (a0_4 != a1_4) = true := c10
       (try (have c10b1 : decide (a0_4 = a1_4) = false := by simpa using c10))
       (try (have c10b2 : (a0_4 == a1_4) = false := by simpa using c10))
       (try (have c10b3 : ¬ (a0_4 = a1_4) := by simpa using c10))
       clear c10
       have H' := Aside0.mk H
       clear H
       have hnb11 := NB227_228.out
       have hnc11 := NB228_227.out
       obtain ⟨z12_0, z12_1, z12_2, z12_3, z12_4, z12_5, z12_6, y12_0, y12_1, y12_2, y12_3, y12_4, y12_5, y12_6⟩ := cz7_ BK227.out
       obtain ⟨z13_0, z13_1, z13_2, z13_3, z13_4, z13_5, z13_6, y13_0, y13_1, y13_2, y13_3, y13_4, y13_5, y13_6⟩ := cz7_ BK228.out
       go_wp2
       repeat (go_quiet (fail); try go_wp2)
       go_meet
       case rel => exact ⟨_, (true), E3_, H', ⟨by first | omega | exact Nat.le_refl _⟩, ⟨B1_ BK227.out⟩, ⟨B1_ BK228.out⟩, ⟨W2_⟩⟩
      ·
       rw [if_neg c10] at H
       have c10b0 : (a0_4 != a1_4) = false := by simpa using c10
       (try (have c10b1 : decide (a0_4 = a1_4) = true := by simpa using c10))
       (try (have c10b2 : (a0_4 == a1_4) = true := by simpa using c10))
       clear c10
       by_cases c14 : (a0_5 != a1_5) = true
       ·
        rw [if_pos c14] at H
        have c14b0 : (a0_5 != a1_5) = true := c14
        (try (have c14b1 : decide (a0_5 = a1_5) = false := by simpa using c14))
        (try (have c14b2 : (a0_5 == a1_5) = false := by simpa using c14))
        (try (have c14b3 : ¬ (a0_5 = a1_5) := by simpa using c14))
        clear c14
        have H' := Aside0.mk H
        clear H
        have hnb15 := NB227_228.out
        have hnc15 := NB228_227.out
        obtain ⟨z16_0, z16_1, z16_2, z16_3, z16_4, z16_5, z16_6, y16_0, y16_1, y16_2, y16_3, y16_4, y16_5, y16_6⟩ := cz7_ BK227.out
        obtain ⟨z17_0, z17_1, z17_2, z17_3, z17_4, z17_5, z17_6, y17_0, y17_1, y17_2, y17_3, y17_4, y17_5, y17_6⟩ := cz7_ BK228.out
        go_wp2
        repeat (go_quiet (fail); try go_wp2)
        go_meet
        case rel => exact ⟨_, (true), E3_, H', ⟨by first | omega | exact Nat.le_refl _⟩, ⟨B1_ BK227.out⟩, ⟨B1_ BK228.out⟩, ⟨W2_⟩⟩
       ·
        rw [if_neg c14] at H
        have c14b0 : (a0_5 != a1_5) = false := by simpa using c14
        (try (have c14b1 : decide (a0_5 = a1_5) = true := by simpa using c14))
        (try (have c14b2 : (a0_5 == a1_5) = true := by simpa using c14))
        clear c14
        have H' := Aside0.mk H
        clear H
        have hnb18 := NB227_228.out
        have hnc18 := NB228_227.out
        obtain ⟨z19_0, z19_1, z19_2, z19_3, z19_4, z19_5, z19_6, y19_0, y19_1, y19_2, y19_3, y19_4, y19_5, y19_6⟩ := cz7_ BK227.out
        obtain ⟨z20_0, z20_1, z20_2, z20_3, z20_4, z20_5, z20_6, y20_0, y20_1, y20_2, y20_3, y20_4, y20_5, y20_6⟩ := cz7_ BK228.out
        go_wp2
        repeat (go_quiet (fail); try go_wp2)
        go_meet
        case rel => exact ⟨_, (((l0_6.length : Int) != (l1_6.length : Int))), E3_, H', ⟨by first | omega | exact Nat.le_refl _⟩, ⟨B1_ BK227.out⟩, ⟨B1_ BK228.out⟩, ⟨W2_⟩⟩
     ·
      rw [if_neg c9] at H
      have c9b0 : (a0_3 == a1_3) = false := beq_eq_false_iff_ne.mpr c9
      have c9b1 : (a0_3 != a1_3) = true := bne_iff_ne.mpr c9
      have H' := Aside0.mk H
      clear H
      have hnb21 := NB227_228.out
      have hnc21 := NB228_227.out
      obtain ⟨z22_0, z22_1, z22_2, z22_3, z22_4, z22_5, z22_6, y22_0, y22_1, y22_2, y22_3, y22_4, y22_5, y22_6⟩ := cz7_ BK227.out
      obtain ⟨z23_0, z23_1, z23_2, z23_3, z23_4, z23_5, z23_6, y23_0, y23_1, y23_2, y23_3, y23_4, y23_5, y23_6⟩ := cz7_ BK228.out
      go_wp2
      repeat (go_quiet (fail); try go_wp2)
      go_meet
      case rel => exact ⟨_, (true), E3_, H', ⟨by first | omega | exact Nat.le_refl _⟩, ⟨B1_ BK227.out⟩, ⟨B1_ BK228.out⟩, ⟨W2_⟩⟩
    ·
     rw [if_neg c8] at H
     have c8b0 : (a0_2 == a1_2) = false := beq_eq_false_iff_ne.mpr c8
     have c8b1 : (a0_2 != a1_2) = true := bne_iff_ne.mpr c8
     have H' := Aside0.mk H
     clear H
     have hnb24 := NB227_228.out
     have hnc24 := NB228_227.out
     obtain ⟨z25_0, z25_1, z25_2, z25_3, z25_4, z25_5, z25_6, y25_0, y25_1, y25_2, y25_3, y25_4, y25_5, y25_6⟩ := cz7_ BK227.out
     obtain ⟨z26_0, z26_1, z26_2, z26_3, z26_4, z26_5, z26_6, y26_0, y26_1, y26_2, y26_3, y26_4, y26_5, y26_6⟩ := cz7_ BK228.out
     go_wp2
     repeat (go_quiet (fail); try go_wp2)
     go_meet
     case rel => exact ⟨_, (true), E3_, H', ⟨by first | omega | exact Nat.le_refl _⟩, ⟨B1_ BK227.out⟩, ⟨B1_ BK228.out⟩, ⟨W2_⟩⟩
   ·
    rw [if_neg c7] at H
    have c7b0 : (a0_1 == a1_1) = false := beq_eq_false_iff_ne.mpr c7
    have c7b1 : (a0_1 != a1_1) = true := bne_iff_ne.mpr c7
    have H' := Aside0.mk H
    clear H
    have hnb27 := NB227_228.out
    have hnc27 := NB228_227.out
    obtain ⟨z28_0, z28_1, z28_2, z28_3, z28_4, z28_5, z28_6, y28_0, y28_1, y28_2, y28_3, y28_4, y28_5, y28_6⟩ := cz7_ BK227.out
    obtain ⟨z29_0, z29_1, z29_2, z29_3, z29_4, z29_5, z29_6, y29_0, y29_1, y29_2, y29_3, y29_4, y29_5, y29_6⟩ := cz7_ BK228.out
    go_wp2
    repeat (go_quiet (fail); try go_wp2)
    go_meet
    case rel => exact ⟨_, (true), E3_, H', ⟨by first | omega | exact Nat.le_refl _⟩, ⟨B1_ BK227.out⟩, ⟨B1_ BK228.out⟩, ⟨W2_⟩⟩
  ·
   rw [if_neg c6] at H
   have c6b0 : (a0_0.toList == a1_0.toList) = false := beq_eq_false_iff_ne.mpr c6
   have c6b1 : (a0_0.toList != a1_0.toList) = true := bne_iff_ne.mpr c6
   (first | rw [c6b0] | (simp only [i64_w, i32_w]; rw [c6b0]) | skip)
   have H' := Aside0.mk H
   clear H
   have hnb30 := NB227_228.out
   have hnc30 := NB228_227.out
   obtain ⟨z31_0, z31_1, z31_2, z31_3, z31_4, z31_5, z31_6, y31_0, y31_1, y31_2, y31_3, y31_4, y31_5, y31_6⟩ := cz7_ BK227.out
   obtain ⟨z32_0, z32_1, z32_2, z32_3, z32_4, z32_5, z32_6, y32_0, y32_1, y32_2, y32_3, y32_4, y32_5, y32_6⟩ := cz7_ BK228.out
   go_wp2
   repeat (go_quiet (fail); try go_wp2)
   go_meet
   case rel => exact ⟨_, (true), E3_, H', ⟨by first | omega | exact Nat.le_refl _⟩, ⟨B1_ BK227.out⟩, ⟨B1_ BK228.out⟩, ⟨W2_⟩⟩
 case rest =>
  clear HC3
  (try clear c6); (try clear c6b0); (try clear c6b1); (try clear c7); (try clear c7b0); (try clear c7b1); (try clear c8); (try clear c8b0); (try clear c8b1); (try clear c9); (try clear c9b0); (try clear c9b1); (try clear c10); (try clear c10b0); (try clear c10b1); (try clear c10b2); (try clear c14); (try clear c14b0); (try clear c14b1); (try clear c14b2); (try clear z12_0 z12_1 z12_2 z12_3 z12_4 z12_5 z12_6 y12_0 y12_1 y12_2 y12_3 y12_4 y12_5 y12_6); (try clear z13_0 z13_1 z13_2 z13_3 z13_4 z13_5 z13_6 y13_0 y13_1 y13_2 y13_3 y13_4 y13_5 y13_6); (try clear z16_0 z16_1 z16_2 z16_3 z16_4 z16_5 z16_6 y16_0 y16_1 y16_2 y16_3 y16_4 y16_5 y16_6); (try clear z17_0 z17_1 z17_2 z17_3 z17_4 z17_5 z17_6 y17_0 y17_1 y17_2 y17_3 y17_4 y17_5 y17_6); (try clear z19_0 z19_1 z19_2 z19_3 z19_4 z19_5 z19_6 y19_0 y19_1 y19_2 y19_3 y19_4 y19_5 y19_6); (try clear z20_0 z20_1 z20_2 z20_3 z20_4 z20_5 z20_6 y20_0 y20_1 y20_2 y20_3 y20_4 y20_5 y20_6); (try clear z22_0 z22_1 z22_2 z22_3 z22_4 z22_5 z22_6 y22_0 y22_1 y22_2 y22_3 y22_4 y22_5 y22_6); (try clear z23_0 z23_1 z23_2 z23_3 z23_4 z23_5 z23_6 y23_0 y23_1 y23_2 y23_3 y23_4 y23_5 y23_6); (try clear z25_0 z25_1 z25_2 z25_3 z25_4 z25_5 z25_6 y25_0 y25_1 y25_2 y25_3 y25_4 y25_5 y25_6); (try clear z26_0 z26_1 z26_2 z26_3 z26_4 z26_5 z26_6 y26_0 y26_1 y26_2 y26_3 y26_4 y26_5 y26_6); (try clear z28_0 z28_1 z28_2 z28_3 z28_4 z28_5 z28_6 y28_0 y28_1 y28_2 y28_3 y28_4 y28_5 y28_6); (try clear z29_0 z29_1 z29_2 z29_3 z29_4 z29_5 z29_6 y29_0 y29_1 y29_2 y29_3 y29_4 y29_5 y29_6); (try clear z31_0 z31_1 z31_2 z31_3 z31_4 z31_5 z31_6 y31_0 y31_1 y31_2 y31_3 y31_4 y31_5 y31_6); (try clear z32_0 z32_1 z32_2 z32_3 z32_4 z32_5 z32_6 y32_0 y32_1 y32_2 y32_3 y32_4 y32_5 y32_6)
  obtain ⟨kq, x54_2, rfl, HA, HJ2, BK227, BK228, HB⟩ := hcut
  cases kq with
  | zero => exact absurd HA.out (by simp [pantryref09_Alike.j0])
  | succ kj2 =>
   have H := HA.out
   clear HA
   simp only [pantryref09_Alike.j0] at H
   by_cases c33 : x54_2 = true
   ·
    subst c33
    rw [if_pos rfl] at H
    obtain rfl := Option.some.inj H
    go_wp2
    repeat (go_quiet (fail); try go_wp2)
    go_ret
    exact ⟨E1_, W2_⟩
   ·
    replace c33 := Bool.eq_false_iff.mpr c33
    subst c33
    rw [if_neg (show ¬ (false = true) by decide)] at H
    have H' := Aside0.mk H
    clear H
    go_wp2
    repeat (go_quiet (fail); try go_wp2)
    go_loopg [5] kj2 (fun kq v5 w' => ∃ (x5_2 : Int), v5 = .int .i64 x5_2 ∧ Aside0 (pantryref09_Alike.l0 kq x5_2 a0_0 a0_1 a0_2 a0_3 a0_4 a0_5 l0_6 a1_0 a1_1 a1_2 a1_3 a1_4 a1_5 l1_6 = some r) ∧ Aside0 (kq ≤ kj2) ∧ Aside0 (w'.heap[gb227]? = some (.cells #[.string a0_0, .int .i64 a0_1, .int .i64 a0_2, .int .i64 a0_3, .bool a0_4, .bool a0_5, (.slice A0_6 l0_6.length c0_6)] 38 (0, 0))) ∧ Aside0 (w'.heap[gb228]? = some (.cells #[.string a1_0, .int .i64 a1_1, .int .i64 a1_2, .int .i64 a1_3, .bool a1_4, .bool a1_5, (.slice A1_6 l1_6.length c1_6)] 38 (0, 0))) ∧ Aside0 (Below w.heap.size w w'))
    case atStart => exact ⟨(0), E3_, H', ⟨Nat.le_refl _⟩, ⟨B1_ BK227.out⟩, ⟨B1_ BK228.out⟩, ⟨W2_⟩⟩
    case round =>
     clear H'
     (try clear c6); (try clear c6b0); (try clear c6b1); (try clear c7); (try clear c7b0); (try clear c7b1); (try clear c8); (try clear c8b0); (try clear c8b1); (try clear c9); (try clear c9b0); (try clear c9b1); (try clear c10); (try clear c10b0); (try clear c10b1); (try clear c10b2); (try clear c14); (try clear c14b0); (try clear c14b1); (try clear c14b2); (try clear c33); (try clear z12_0 z12_1 z12_2 z12_3 z12_4 z12_5 z12_6 y12_0 y12_1 y12_2 y12_3 y12_4 y12_5 y12_6); (try clear z13_0 z13_1 z13_2 z13_3 z13_4 z13_5 z13_6 y13_0 y13_1 y13_2 y13_3 y13_4 y13_5 y13_6); (try clear z16_0 z16_1 z16_2 z16_3 z16_4 z16_5 z16_6 y16_0 y16_1 y16_2 y16_3 y16_4 y16_5 y16_6); (try clear z17_0 z17_1 z17_2 z17_3 z17_4 z17_5 z17_6 y17_0 y17_1 y17_2 y17_3 y17_4 y17_5 y17_6); (try clear z19_0 z19_1 z19_2 z19_3 z19_4 z19_5 z19_6 y19_0 y19_1 y19_2 y19_3 y19_4 y19_5 y19_6); (try clear z20_0 z20_1 z20_2 z20_3 z20_4 z20_5 z20_6 y20_0 y20_1 y20_2 y20_3 y20_4 y20_5 y20_6); (try clear z22_0 z22_1 z22_2 z22_3 z22_4 z22_5 z22_6 y22_0 y22_1 y22_2 y22_3 y22_4 y22_5 y22_6); (try clear z23_0 z23_1 z23_2 z23_3 z23_4 z23_5 z23_6 y23_0 y23_1 y23_2 y23_3 y23_4 y23_5 y23_6); (try clear z25_0 z25_1 z25_2 z25_3 z25_4 z25_5 z25_6 y25_0 y25_1 y25_2 y25_3 y25_4 y25_5 y25_6); (try clear z26_0 z26_1 z26_2 z26_3 z26_4 z26_5 z26_6 y26_0 y26_1 y26_2 y26_3 y26_4 y26_5 y26_6); (try clear z28_0 z28_1 z28_2 z28_3 z28_4 z28_5 z28_6 y28_0 y28_1 y28_2 y28_3 y28_4 y28_5 y28_6); (try clear z29_0 z29_1 z29_2 z29_3 z29_4 z29_5 z29_6 y29_0 y29_1 y29_2 y29_3 y29_4 y29_5 y29_6); (try clear z31_0 z31_1 z31_2 z31_3 z31_4 z31_5 z31_6 y31_0 y31_1 y31_2 y31_3 y31_4 y31_5 y31_6); (try clear z32_0 z32_1 z32_2 z32_3 z32_4 z32_5 z32_6 y32_0 y32_1 y32_2 y32_3 y32_4 y32_5 y32_6)
     obtain ⟨x5_2, rfl, HA, HK2, BK227, BK228, HB⟩ := hrel
     cases gk with
     | zero => exact absurd HA.out (by simp [pantryref09_Alike.l0])
     | succ k2 =>
      have H := HA.out
      clear HA
      simp only [pantryref09_Alike.l0] at H
      by_cases c34 : x5_2 < (l0_6.length : Int)
      ·
       rw [if_pos c34] at H
       have c34b0 : decide (x5_2 < (l0_6.length : Int)) = true := decide_eq_true c34
       clear c34
       by_cases c35 : 0 ≤ x5_2
       ·
        rw [if_pos c35] at H
        have c35b0 : decide (0 ≤ x5_2) = true := decide_eq_true c35
        clear c35
        by_cases c36 : x5_2 < (l1_6.length : Int)
        ·
         rw [if_pos c36] at H
         have c36b0 : decide (x5_2 < (l1_6.length : Int)) = true := decide_eq_true c36
         clear c36
         by_cases c37 : (rdOf ByteArray.empty l0_6 x5_2).toList = (rdOf ByteArray.empty l1_6 x5_2).toList
         ·
          rw [if_pos c37] at H
          have c37b0 : ((rdOf ByteArray.empty l0_6 x5_2).toList == (rdOf ByteArray.empty l1_6 x5_2).toList) = true := beq_iff_eq.mpr c37
          have c37b1 : ((rdOf ByteArray.empty l0_6 x5_2).toList != (rdOf ByteArray.empty l1_6 x5_2).toList) = false := bne_eq_false_iff_eq.mpr c37
          clear c37
          have H' := Aside0.mk H
          clear H
          have hnb38 := NB227_228.out
          have hnc38 := NB228_227.out
          obtain ⟨z39_0, z39_1, z39_2, z39_3, z39_4, z39_5, z39_6, y39_0, y39_1, y39_2, y39_3, y39_4, y39_5, y39_6⟩ := cz7_ BK227.out
          have p229 : 0 ≤ (x5_2 : Int) := oA_
          have q229 : x5_2 < (l0_6.length : Int) := oA_
          obtain ⟨ad229, e229, hx229_0⟩ := Kd.at_string HR0_6.out x5_2 p229 q229
          cases e229
          replace hx229_0 := (HB.out.cell (World.block_lt_of_cell? w _ hx229_0)).trans hx229_0
          replace p229 := eq_true p229
          replace q229 := eq_true q229
          obtain ⟨z40_0, z40_1, z40_2, z40_3, z40_4, z40_5, z40_6, y40_0, y40_1, y40_2, y40_3, y40_4, y40_5, y40_6⟩ := cz7_ BK228.out
          have p230 : 0 ≤ (x5_2 : Int) := oA_
          have q230 : x5_2 < (l1_6.length : Int) := oA_
          obtain ⟨ad230, e230, hx230_0⟩ := Kd.at_string HR1_6.out x5_2 p230 q230
          cases e230
          replace hx230_0 := (HB.out.cell (World.block_lt_of_cell? w _ hx230_0)).trans hx230_0
          replace p230 := eq_true p230
          replace q230 := eq_true q230
          go_wp2
          repeat (go_quiet (fail); try go_wp2)
          go_roundg k2
          case measure => have := HJ2.out; have := HK2.out; omega
          case rel => exact ⟨(wrap64 (x5_2 + 1)), E3_, H', ⟨by have := HJ2.out; have := HK2.out; omega⟩, ⟨B1_ BK227.out⟩, ⟨B1_ BK228.out⟩, ⟨W2_⟩⟩
         ·
          rw [if_neg c37] at H
          have c37b0 : ((rdOf ByteArray.empty l0_6 x5_2).toList == (rdOf ByteArray.empty l1_6 x5_2).toList) = false := beq_eq_false_iff_ne.mpr c37
          have c37b1 : ((rdOf ByteArray.empty l0_6 x5_2).toList != (rdOf ByteArray.empty l1_6 x5_2).toList) = true := bne_iff_ne.mpr c37
          obtain rfl := Option.some.inj H
          have hnb41 := NB227_228.out
          have hnc41 := NB228_227.out
          obtain ⟨z42_0, z42_1, z42_2, z42_3, z42_4, z42_5, z42_6, y42_0, y42_1, y42_2, y42_3, y42_4, y42_5, y42_6⟩ := cz7_ BK227.out
          have p229 : 0 ≤ (x5_2 : Int) := oA_
          have q229 : x5_2 < (l0_6.length : Int) := oA_
          obtain ⟨ad229, e229, hx229_0⟩ := Kd.at_string HR0_6.out x5_2 p229 q229
          cases e229
          replace hx229_0 := (HB.out.cell (World.block_lt_of_cell? w _ hx229_0)).trans hx229_0
          replace p229 := eq_true p229
          replace q229 := eq_true q229
          obtain ⟨z43_0, z43_1, z43_2, z43_3, z43_4, z43_5, z43_6, y43_0, y43_1, y43_2, y43_3, y43_4, y43_5, y43_6⟩ := cz7_ BK228.out
          have p230 : 0 ≤ (x5_2 : Int) := oA_
          have q230 : x5_2 < (l1_6.length : Int) := oA_
          obtain ⟨ad230, e230, hx230_0⟩ := Kd.at_string HR1_6.out x5_2 p230 q230
          cases e230
          replace hx230_0 := (HB.out.cell (World.block_lt_of_cell? w _ hx230_0)).trans hx230_0
          replace p230 := eq_true p230
          replace q230 := eq_true q230
          go_wp2
          repeat (go_quiet (fail); try go_wp2)
          go_ret
          exact ⟨E1_, W2_⟩
        ·
         rw [if_neg c36] at H
         exact absurd H (by simp)
       ·
        rw [if_neg c35] at H
        exact absurd H (by simp)
      ·
       rw [if_neg c34] at H
       have c34b0 : decide (x5_2 < (l0_6.length : Int)) = false := decide_eq_false c34
       clear c34
       obtain rfl := Option.some.inj H
       have hnb44 := NB227_228.out
       have hnc44 := NB228_227.out
       obtain ⟨z45_0, z45_1, z45_2, z45_3, z45_4, z45_5, z45_6, y45_0, y45_1, y45_2, y45_3, y45_4, y45_5, y45_6⟩ := cz7_ BK227.out
       go_wp2
       repeat (go_quiet (fail); try go_wp2)
       go_ret
       exact ⟨E1_, W2_⟩

end Go.Proofs.YtfcifigemiafgaaDoor.PAll
