-- Text by a program of this session, over what print.py prints.
import Derived.Test.YtgpekljckdgggaaGreatDoorPAllx0
namespace Go.Proofs.YtgpekljckdgggaaGreatDoor.PAll
open Go.RowKit Go.Proofs.YtgpekljckdgggaaGreatDoorW.PrintWords Go.Proofs.YtgpekljckdgggaaGreatDoorW.PrintLast Go.Proofs.YtgpekljckdgggaaGreatDoorW.PrintMore
attribute [local go_sem] max2_int min2_int max_two min_two max_three min_three max_four min_four   -- for this text's walks alone
set_option linter.unusedVariables false
set_option linter.unusedSimpArgs false

/-! ### fresh_may: function 41 -/
mutual
def fresh_may.j0 : Nat → Int → Int → Bool → Bool → Bool → Bool → Bool → Bool → Bool → Int → Int → Int → Int → Bool → Bool → Bool → Bool → Bool → Bool → Int → Int → Int → Int → Option (Bool)
 | 0, _, _, _, _, _, _, _, _, _, _, _, _, _, _, _, _, _, _, _, _, _, _, _ => none
 | k + 1, x2, x3, x9, x226000, x226001, x226002, x226003, x226004, x226005, x226006, x226007, x226008, x226009, x227000, x227001, x227002, x227003, x227004, x227005, x227006, x227007, x227008, x227009 => if x226001 = true then (fresh_may.j1 k x2 x3 x9 true x226000 x226001 x226002 x226003 x226004 x226005 x226006 x226007 x226008 x226009 x227000 x227001 x227002 x227003 x227004 x227005 x227006 x227007 x227008 x227009) else (fresh_may.j1 k x2 x3 x9 x227001 x226000 x226001 x226002 x226003 x226004 x226005 x226006 x226007 x226008 x226009 x227000 x227001 x227002 x227003 x227004 x227005 x227006 x227007 x227008 x227009)
def fresh_may.j1 : Nat → Int → Int → Bool → Bool → Bool → Bool → Bool → Bool → Bool → Bool → Int → Int → Int → Int → Bool → Bool → Bool → Bool → Bool → Bool → Int → Int → Int → Int → Option (Bool)
 | 0, _, _, _, _, _, _, _, _, _, _, _, _, _, _, _, _, _, _, _, _, _, _, _, _ => none
 | k + 1, x2, x3, x9, x19, x226000, x226001, x226002, x226003, x226004, x226005, x226006, x226007, x226008, x226009, x227000, x227001, x227002, x227003, x227004, x227005, x227006, x227007, x227008, x227009 => if x19 = true then (some false) else (if x2 < x3 then (if x9 = true then (if x226008 < 0 then (some true) else (if (wrap64 (x3 - x2)) ≥ x226008 then (some true) else (if x226009 ≥ 0 then (some false) else (some false)))) else (some false)) else (if x9 = true then (if x226009 ≥ 0 then (if x226008 < 0 then (if x227004 = true then (some false) else (if x227007 < 0 then (some (decide ((wrap64 (x2 - x3)) ≤ x226009))) else (some false))) else (some false)) else (some false)) else (some false)))
end
def fresh_may.f (k : Nat) (a0_0 : Bool) (a0_1 : Bool) (a0_2 : Bool) (a0_3 : Bool) (a0_4 : Bool) (a0_5 : Bool) (a0_6 : Int) (a0_7 : Int) (a0_8 : Int) (a0_9 : Int) (a1_0 : Bool) (a1_1 : Bool) (a1_2 : Bool) (a1_3 : Bool) (a1_4 : Bool) (a1_5 : Bool) (a1_6 : Int) (a1_7 : Int) (a1_8 : Int) (a1_9 : Int) (a2 : Int) (a3 : Int) : Option (Bool) := if a0_6 < 0 then (fresh_may.j0 k a2 a3 true a0_0 a0_1 a0_2 a0_3 a0_4 a0_5 a0_6 a0_7 a0_8 a0_9 a1_0 a1_1 a1_2 a1_3 a1_4 a1_5 a1_6 a1_7 a1_8 a1_9) else (fresh_may.j0 k a2 a3 (decide (a2 ≤ a0_6)) a0_0 a0_1 a0_2 a0_3 a0_4 a0_5 a0_6 a0_7 a0_8 a0_9 a1_0 a1_1 a1_2 a1_3 a1_4 a1_5 a1_6 a1_7 a1_8 a1_9)
theorem fresh_may.mono_l : ∀ k, (∀ y0 y1 y2 y3 y4 y5 y6 y7 y8 y9 y10 y11 y12 y13 y14 y15 y16 y17 y18 y19 y20 y21 y22, LeO (fresh_may.j0 k y0 y1 y2 y3 y4 y5 y6 y7 y8 y9 y10 y11 y12 y13 y14 y15 y16 y17 y18 y19 y20 y21 y22) (fresh_may.j0 (k + 1) y0 y1 y2 y3 y4 y5 y6 y7 y8 y9 y10 y11 y12 y13 y14 y15 y16 y17 y18 y19 y20 y21 y22)) ∧ (∀ y0 y1 y2 y3 y4 y5 y6 y7 y8 y9 y10 y11 y12 y13 y14 y15 y16 y17 y18 y19 y20 y21 y22 y23, LeO (fresh_may.j1 k y0 y1 y2 y3 y4 y5 y6 y7 y8 y9 y10 y11 y12 y13 y14 y15 y16 y17 y18 y19 y20 y21 y22 y23) (fresh_may.j1 (k + 1) y0 y1 y2 y3 y4 y5 y6 y7 y8 y9 y10 y11 y12 y13 y14 y15 y16 y17 y18 y19 y20 y21 y22 y23))
 | 0 => ⟨fun _ _ _ _ _ _ _ _ _ _ _ _ _ _ _ _ _ _ _ _ _ _ _ r h => by simp [fresh_may.j0] at h, fun _ _ _ _ _ _ _ _ _ _ _ _ _ _ _ _ _ _ _ _ _ _ _ _ r h => by simp [fresh_may.j1] at h⟩
 | k + 1 => by
  obtain ⟨ih0, ih1⟩ := fresh_may.mono_l k
  refine ⟨?_, ?_⟩
  ·
   intro y0 y1 y2 y3 y4 y5 y6 y7 y8 y9 y10 y11 y12 y13 y14 y15 y16 y17 y18 y19 y20 y21 y22
   unfold fresh_may.j0
   repeat' first
   | (with_reducible exact ih0 _ _ _ _ _ _ _ _ _ _ _ _ _ _ _ _ _ _ _ _ _ _ _)
   | (with_reducible exact ih1 _ _ _ _ _ _ _ _ _ _ _ _ _ _ _ _ _ _ _ _ _ _ _ _)
   | (with_reducible exact LeO.refl _)
   | (with_reducible exact LeO.none _)
   | (with_reducible refine LeO.ite ?_ ?_)
   | (with_reducible refine LeO.bind ?_ (fun _ => ?_))
   | exact ih0 _ _ _ _ _ _ _ _ _ _ _ _ _ _ _ _ _ _ _ _ _ _ _
   | exact ih1 _ _ _ _ _ _ _ _ _ _ _ _ _ _ _ _ _ _ _ _ _ _ _ _
   | exact LeO.none _
   | refine LeO.ite ?_ ?_
   | refine LeO.bind ?_ (fun _ => ?_)
  ·
   intro y0 y1 y2 y3 y4 y5 y6 y7 y8 y9 y10 y11 y12 y13 y14 y15 y16 y17 y18 y19 y20 y21 y22 y23
   unfold fresh_may.j1
   repeat' first
   | (with_reducible exact ih0 _ _ _ _ _ _ _ _ _ _ _ _ _ _ _ _ _ _ _ _ _ _ _)
   | (with_reducible exact ih1 _ _ _ _ _ _ _ _ _ _ _ _ _ _ _ _ _ _ _ _ _ _ _ _)
   | (with_reducible exact LeO.refl _)
   | (with_reducible exact LeO.none _)
   | (with_reducible refine LeO.ite ?_ ?_)
   | (with_reducible refine LeO.bind ?_ (fun _ => ?_))
   | exact ih0 _ _ _ _ _ _ _ _ _ _ _ _ _ _ _ _ _ _ _ _ _ _ _
   | exact ih1 _ _ _ _ _ _ _ _ _ _ _ _ _ _ _ _ _ _ _ _ _ _ _ _
   | exact LeO.none _
   | refine LeO.ite ?_ ?_
   | refine LeO.bind ?_ (fun _ => ?_)
theorem fresh_may.mono : ∀ a0 a1 a2 a3 a4 a5 a6 a7 a8 a9 a10 a11 a12 a13 a14 a15 a16 a17 a18 a19 a20 a21 k, LeO (fresh_may.f k a0 a1 a2 a3 a4 a5 a6 a7 a8 a9 a10 a11 a12 a13 a14 a15 a16 a17 a18 a19 a20 a21) (fresh_may.f (k + 1) a0 a1 a2 a3 a4 a5 a6 a7 a8 a9 a10 a11 a12 a13 a14 a15 a16 a17 a18 a19 a20 a21) := by
 intro a0 a1 a2 a3 a4 a5 a6 a7 a8 a9 a10 a11 a12 a13 a14 a15 a16 a17 a18 a19 a20 a21 k
 obtain ⟨ih0, ih1⟩ := fresh_may.mono_l k
 unfold fresh_may.f
 repeat' first
   | (with_reducible exact ih0 _ _ _ _ _ _ _ _ _ _ _ _ _ _ _ _ _ _ _ _ _ _ _)
   | (with_reducible exact ih1 _ _ _ _ _ _ _ _ _ _ _ _ _ _ _ _ _ _ _ _ _ _ _ _)
   | (with_reducible exact LeO.refl _)
   | (with_reducible exact LeO.none _)
   | (with_reducible refine LeO.ite ?_ ?_)
   | (with_reducible refine LeO.bind ?_ (fun _ => ?_))
   | exact ih0 _ _ _ _ _ _ _ _ _ _ _ _ _ _ _ _ _ _ _ _ _ _ _
   | exact ih1 _ _ _ _ _ _ _ _ _ _ _ _ _ _ _ _ _ _ _ _ _ _ _ _
   | exact LeO.none _
   | refine LeO.ite ?_ ?_
   | refine LeO.bind ?_ (fun _ => ?_)
set_option maxHeartbeats 8000000 in
set_option maxRecDepth 100000 in
theorem fresh_may.calls (k : Nat) (a0_0 : Bool) (a0_1 : Bool) (a0_2 : Bool) (a0_3 : Bool) (a0_4 : Bool) (a0_5 : Bool) (a0_6 : Int) (a0_7 : Int) (a0_8 : Int) (a0_9 : Int) (a1_0 : Bool) (a1_1 : Bool) (a1_2 : Bool) (a1_3 : Bool) (a1_4 : Bool) (a1_5 : Bool) (a1_6 : Int) (a1_7 : Int) (a1_8 : Int) (a1_9 : Int) (a2 : Int) (a3 : Int) (r : Bool) (w : World) (h : fresh_may.f k a0_0 a0_1 a0_2 a0_3 a0_4 a0_5 a0_6 a0_7 a0_8 a0_9 a1_0 a1_1 a1_2 a1_3 a1_4 a1_5 a1_6 a1_7 a1_8 a1_9 a2 a3 = some r) :
  Calls Tryz.prog 41 #[.agg #[.bool a0_0, .bool a0_1, .bool a0_2, .bool a0_3, .bool a0_4, .bool a0_5, .int .i64 a0_6, .int .i64 a0_7, .int .i64 a0_8, .int .i64 a0_9], .agg #[.bool a1_0, .bool a1_1, .bool a1_2, .bool a1_3, .bool a1_4, .bool a1_5, .int .i64 a1_6, .int .i64 a1_7, .int .i64 a1_8, .int .i64 a1_9], .int .i64 a2, .int .i64 a3] w fun e w' => e = .returned (.bool r) ∧ Below w.heap.size w w' := by
 have hu57 := Tryz.underlying57
 have HB := Aside0.mk (Below.refl w.heap.size w)
 have H : (if a0_6 < 0 then (fresh_may.j0 k a2 a3 true a0_0 a0_1 a0_2 a0_3 a0_4 a0_5 a0_6 a0_7 a0_8 a0_9 a1_0 a1_1 a1_2 a1_3 a1_4 a1_5 a1_6 a1_7 a1_8 a1_9) else (fresh_may.j0 k a2 a3 (decide (a2 ≤ a0_6)) a0_0 a0_1 a0_2 a0_3 a0_4 a0_5 a0_6 a0_7 a0_8 a0_9 a1_0 a1_1 a1_2 a1_3 a1_4 a1_5 a1_6 a1_7 a1_8 a1_9)) = some r := h
 clear h
 have HC5 := Aside0.mk H
 clear H
 go_enter Tryz.func41, Tryz.ntmps41
 go_upto_region 1 with (first | ((with_reducible refine gate_dst (N := 4) rfl ?_); refine box_event ?hg (N := 4) ?hd (cs := #[.bool a0_0, .bool a0_1, .bool a0_2, .bool a0_3, .bool a0_4, .bool a0_5, .int .i64 a0_6, .int .i64 a0_7, .int .i64 a0_8, .int .i64 a0_9]) (t := 57) ?hr ?_; (case hd => rfl); (case hg => rfl); (case hr => first | (go_simp; done) | (go_simp; rfl)); intro gb225 hg w6 hbox hb; have n0_ := Aside0.mk (below_step (by repeat (first | (with_reducible first | exact HB.out | apply zA_ | apply zN_ | apply zD_) | exact HB.out)) hb); have n1_ := Aside0.mk (hbox); have n2_ := Aside0.mk ((by rw [hg]; exact (below_size (by repeat (first | (with_reducible first | exact HB.out | apply zA_ | apply zN_ | apply zD_) | exact HB.out))) : w.heap.size ≤ gb225)); have n3_ := Aside0.mk ((by rw [hg]; exact (below_size (by repeat (first | (with_reducible first | exact HB.out | apply zA_ | apply zN_ | apply zD_) | exact HB.out))) : w.heap.size ≤ gb225)); clear HB; have HB := n0_; have BK225 := n1_; have GW225 := n2_; have GE225 := n3_; clear n0_ n1_ n2_ n3_; clear hb hbox hg) | ((with_reducible refine gate_dst (N := 5) rfl ?_); refine box_event ?hg (N := 5) ?hd (cs := #[.bool a1_0, .bool a1_1, .bool a1_2, .bool a1_3, .bool a1_4, .bool a1_5, .int .i64 a1_6, .int .i64 a1_7, .int .i64 a1_8, .int .i64 a1_9]) (t := 57) ?hr ?_; (case hd => rfl); (case hg => rfl); (case hr => first | (go_simp; done) | (go_simp; rfl)); intro gb226 hg w7 hbox hb; have n0_ := Aside0.mk (blk_below (g := gb225) (o := .cells #[.bool a0_0, .bool a0_1, .bool a0_2, .bool a0_3, .bool a0_4, .bool a0_5, .int .i64 a0_6, .int .i64 a0_7, .int .i64 a0_8, .int .i64 a0_9] 57 (0, 0)) (by (with_reducible repeat (first | refine bN_ ?_ _ | refine bD_ ?_ | refine bA_ ?_ _)); exact BK225.out) hb); have n1_ := Aside0.mk (below_step (by repeat (first | (with_reducible first | exact HB.out | apply zA_ | apply zN_ | apply zD_ | refine below_set ?_ GE225.out) | exact HB.out)) hb); have n2_ := Aside0.mk (hbox); have n3_ := Aside0.mk ((by rw [hg]; exact (below_size (by repeat (first | (with_reducible first | exact HB.out | apply zA_ | apply zN_ | apply zD_ | refine below_set ?_ GE225.out) | exact HB.out))) : w.heap.size ≤ gb226)); have n4_ := Aside0.mk ((by rw [hg]; exact (below_size (by repeat (first | (with_reducible first | exact HB.out | apply zA_ | apply zN_ | apply zD_ | refine below_set ?_ GE225.out) | exact HB.out))) : w.heap.size ≤ gb226)); have n5_ := Aside0.mk ((by rw [hg]; exact Nat.ne_of_lt (blk_lt (g := gb225) (o := .cells #[.bool a0_0, .bool a0_1, .bool a0_2, .bool a0_3, .bool a0_4, .bool a0_5, .int .i64 a0_6, .int .i64 a0_7, .int .i64 a0_8, .int .i64 a0_9] 57 (0, 0)) (by (with_reducible repeat (first | refine bN_ ?_ _ | refine bD_ ?_ | refine bA_ ?_ _)); exact BK225.out)) : gb225 ≠ gb226)); have n6_ := Aside0.mk ((by rw [hg]; exact Nat.ne_of_gt (blk_lt (g := gb225) (o := .cells #[.bool a0_0, .bool a0_1, .bool a0_2, .bool a0_3, .bool a0_4, .bool a0_5, .int .i64 a0_6, .int .i64 a0_7, .int .i64 a0_8, .int .i64 a0_9] 57 (0, 0)) (by (with_reducible repeat (first | refine bN_ ?_ _ | refine bD_ ?_ | refine bA_ ?_ _)); exact BK225.out)) : gb226 ≠ gb225)); clear BK225; clear HB; have BK225 := n0_; have HB := n1_; have BK226 := n2_; have GW226 := n3_; have GE226 := n4_; have NB225_226 := n5_; have NB226_225 := n6_; clear n0_ n1_ n2_ n3_ n4_ n5_ n6_; clear hb hbox hg))
 (try simp only [Act.put, sA_, sZ_, sS_])
 go_cut [9] (fun v9 wc => ∃ (kq : Nat) (x9_4 : Bool), v9 = .bool x9_4 ∧ Aside0 (fresh_may.j0 kq a2 a3 x9_4 a0_0 a0_1 a0_2 a0_3 a0_4 a0_5 a0_6 a0_7 a0_8 a0_9 a1_0 a1_1 a1_2 a1_3 a1_4 a1_5 a1_6 a1_7 a1_8 a1_9 = some r) ∧ Aside0 (kq ≤ k) ∧ Aside0 (wc.heap[gb225]? = some (.cells #[.bool a0_0, .bool a0_1, .bool a0_2, .bool a0_3, .bool a0_4, .bool a0_5, .int .i64 a0_6, .int .i64 a0_7, .int .i64 a0_8, .int .i64 a0_9] 57 (0, 0))) ∧ Aside0 (wc.heap[gb226]? = some (.cells #[.bool a1_0, .bool a1_1, .bool a1_2, .bool a1_3, .bool a1_4, .bool a1_5, .int .i64 a1_6, .int .i64 a1_7, .int .i64 a1_8, .int .i64 a1_9] 57 (0, 0))) ∧ Aside0 (Below w.heap.size w wc))
 case first =>
  have H := HC5.out
  clear HC5
  by_cases c8 : a0_6 < 0
  ·
   rw [if_pos c8] at H
   have c8b0 : decide (a0_6 < 0) = true := decide_eq_true c8
   clear c8
   (first | rw [c8b0] | (simp only [i64_w, i32_w]; rw [c8b0]) | skip)
   have H' := Aside0.mk H
   clear H
   have hnb9 := NB225_226.out
   have hnc9 := NB226_225.out
   have hcz10_0 : w7.cell? ⟨gb225, 0, none⟩ = some (.bool a0_0) := (blk_cell BK225.out 0).trans rfl
   have hcz10_1 : w7.cell? ⟨gb225, 1, none⟩ = some (.bool a0_1) := (blk_cell BK225.out 1).trans rfl
   have hcz10_2 : w7.cell? ⟨gb225, 2, none⟩ = some (.bool a0_2) := (blk_cell BK225.out 2).trans rfl
   have hcz10_3 : w7.cell? ⟨gb225, 3, none⟩ = some (.bool a0_3) := (blk_cell BK225.out 3).trans rfl
   have hcz10_4 : w7.cell? ⟨gb225, 4, none⟩ = some (.bool a0_4) := (blk_cell BK225.out 4).trans rfl
   have hcz10_5 : w7.cell? ⟨gb225, 5, none⟩ = some (.bool a0_5) := (blk_cell BK225.out 5).trans rfl
   have hcz10_6 : w7.cell? ⟨gb225, 6, none⟩ = some (.int .i64 a0_6) := (blk_cell BK225.out 6).trans rfl
   have hcz10_7 : w7.cell? ⟨gb225, 7, none⟩ = some (.int .i64 a0_7) := (blk_cell BK225.out 7).trans rfl
   have hcz10_8 : w7.cell? ⟨gb225, 8, none⟩ = some (.int .i64 a0_8) := (blk_cell BK225.out 8).trans rfl
   have hcz10_9 : w7.cell? ⟨gb225, 9, none⟩ = some (.int .i64 a0_9) := (blk_cell BK225.out 9).trans rfl
   have hfz10_0 := blk_frozen BK225.out 0
   have hfz10_1 := blk_frozen BK225.out 1
   have hfz10_2 := blk_frozen BK225.out 2
   have hfz10_3 := blk_frozen BK225.out 3
   have hfz10_4 := blk_frozen BK225.out 4
   have hfz10_5 := blk_frozen BK225.out 5
   have hfz10_6 := blk_frozen BK225.out 6
   have hfz10_7 := blk_frozen BK225.out 7
   have hfz10_8 := blk_frozen BK225.out 8
   have hfz10_9 := blk_frozen BK225.out 9
   go_wp2
   go_meet
   case rel => exact ⟨_, (true), (by first | rfl | (simp; done) | (simp [*]; done)), H', ⟨by first | omega | exact Nat.le_refl _⟩, ⟨by (with_reducible repeat (first | refine bN_ ?_ _ | refine bD_ ?_ | refine bA_ ?_ _)); exact BK225.out⟩, ⟨by (with_reducible repeat (first | refine bN_ ?_ _ | refine bD_ ?_ | refine bA_ ?_ _)); exact BK226.out⟩, ⟨by repeat (first | (with_reducible first | exact HB.out | apply zA_ | apply zN_ | apply zD_ | refine below_set ?_ GE225.out | refine below_set ?_ GE226.out) | exact HB.out)⟩⟩
  ·
   rw [if_neg c8] at H
   have c8b0 : decide (a0_6 < 0) = false := decide_eq_false c8
   clear c8
   (first | rw [c8b0] | (simp only [i64_w, i32_w]; rw [c8b0]) | skip)
   have H' := Aside0.mk H
   clear H
   have hnb11 := NB225_226.out
   have hnc11 := NB226_225.out
   have hcz12_0 : w7.cell? ⟨gb225, 0, none⟩ = some (.bool a0_0) := (blk_cell BK225.out 0).trans rfl
   have hcz12_1 : w7.cell? ⟨gb225, 1, none⟩ = some (.bool a0_1) := (blk_cell BK225.out 1).trans rfl
   have hcz12_2 : w7.cell? ⟨gb225, 2, none⟩ = some (.bool a0_2) := (blk_cell BK225.out 2).trans rfl
   have hcz12_3 : w7.cell? ⟨gb225, 3, none⟩ = some (.bool a0_3) := (blk_cell BK225.out 3).trans rfl
   have hcz12_4 : w7.cell? ⟨gb225, 4, none⟩ = some (.bool a0_4) := (blk_cell BK225.out 4).trans rfl
   have hcz12_5 : w7.cell? ⟨gb225, 5, none⟩ = some (.bool a0_5) := (blk_cell BK225.out 5).trans rfl
   have hcz12_6 : w7.cell? ⟨gb225, 6, none⟩ = some (.int .i64 a0_6) := (blk_cell BK225.out 6).trans rfl
   have hcz12_7 : w7.cell? ⟨gb225, 7, none⟩ = some (.int .i64 a0_7) := (blk_cell BK225.out 7).trans rfl
   have hcz12_8 : w7.cell? ⟨gb225, 8, none⟩ = some (.int .i64 a0_8) := (blk_cell BK225.out 8).trans rfl
   have hcz12_9 : w7.cell? ⟨gb225, 9, none⟩ = some (.int .i64 a0_9) := (blk_cell BK225.out 9).trans rfl
   have hfz12_0 := blk_frozen BK225.out 0
   have hfz12_1 := blk_frozen BK225.out 1
   have hfz12_2 := blk_frozen BK225.out 2
   have hfz12_3 := blk_frozen BK225.out 3
   have hfz12_4 := blk_frozen BK225.out 4
   have hfz12_5 := blk_frozen BK225.out 5
   have hfz12_6 := blk_frozen BK225.out 6
   have hfz12_7 := blk_frozen BK225.out 7
   have hfz12_8 := blk_frozen BK225.out 8
   have hfz12_9 := blk_frozen BK225.out 9
   go_wp2
   go_meet
   case rel => exact ⟨_, (decide (a2 ≤ a0_6)), (by first | rfl | (simp; done) | (simp [*]; done)), H', ⟨by first | omega | exact Nat.le_refl _⟩, ⟨by (with_reducible repeat (first | refine bN_ ?_ _ | refine bD_ ?_ | refine bA_ ?_ _)); exact BK225.out⟩, ⟨by (with_reducible repeat (first | refine bN_ ?_ _ | refine bD_ ?_ | refine bA_ ?_ _)); exact BK226.out⟩, ⟨by repeat (first | (with_reducible first | exact HB.out | apply zA_ | apply zN_ | apply zD_ | refine below_set ?_ GE225.out | refine below_set ?_ GE226.out) | exact HB.out)⟩⟩
 case rest =>
  clear HC5
  (try clear c8); (try clear c8b0); (try clear hcz10_0); (try clear hcz10_1); (try clear hcz10_2); (try clear hcz10_3); (try clear hcz10_4); (try clear hcz10_5); (try clear hcz10_6); (try clear hcz10_7); (try clear hcz10_8); (try clear hcz10_9); (try clear hcz12_0); (try clear hcz12_1); (try clear hcz12_2); (try clear hcz12_3); (try clear hcz12_4); (try clear hcz12_5); (try clear hcz12_6); (try clear hcz12_7); (try clear hcz12_8); (try clear hcz12_9); (try clear hfz10_0); (try clear hfz10_1); (try clear hfz10_2); (try clear hfz10_3); (try clear hfz10_4); (try clear hfz10_5); (try clear hfz10_6); (try clear hfz10_7); (try clear hfz10_8); (try clear hfz10_9); (try clear hfz12_0); (try clear hfz12_1); (try clear hfz12_2); (try clear hfz12_3); (try clear hfz12_4); (try clear hfz12_5); (try clear hfz12_6); (try clear hfz12_7); (try clear hfz12_8); (try clear hfz12_9)
  obtain ⟨kq, x9_4, rfl, HA, HJ4, BK225, BK226, HB⟩ := hcut
  cases kq with
  | zero => exact absurd HA.out (by simp [fresh_may.j0])
  | succ kj4 =>
   have H := HA.out
   clear HA
   simp only [fresh_may.j0] at H
   have HC13 := Aside0.mk H
   clear H
   go_upto_region 2 with (fail)
   go_cut [19] (fun v19 wc => ∃ (kq : Nat) (x19_12 : Bool), v19 = .bool x19_12 ∧ Aside0 (fresh_may.j1 kq a2 a3 x9_4 x19_12 a0_0 a0_1 a0_2 a0_3 a0_4 a0_5 a0_6 a0_7 a0_8 a0_9 a1_0 a1_1 a1_2 a1_3 a1_4 a1_5 a1_6 a1_7 a1_8 a1_9 = some r) ∧ Aside0 (kq ≤ kj4) ∧ Aside0 (wc.heap[gb225]? = some (.cells #[.bool a0_0, .bool a0_1, .bool a0_2, .bool a0_3, .bool a0_4, .bool a0_5, .int .i64 a0_6, .int .i64 a0_7, .int .i64 a0_8, .int .i64 a0_9] 57 (0, 0))) ∧ Aside0 (wc.heap[gb226]? = some (.cells #[.bool a1_0, .bool a1_1, .bool a1_2, .bool a1_3, .bool a1_4, .bool a1_5, .int .i64 a1_6, .int .i64 a1_7, .int .i64 a1_8, .int .i64 a1_9] 57 (0, 0))) ∧ Aside0 (Below w.heap.size w wc))
   case first =>
    have H := HC13.out
    clear HC13
    by_cases c14 : a0_1 = true
    ·
     subst c14
     rw [if_pos rfl] at H
     have H' := Aside0.mk H
     clear H
     have hnb15 := NB225_226.out
     have hnc15 := NB226_225.out
     have hcz16_0 : wc.cell? ⟨gb225, 0, none⟩ = some (.bool a0_0) := (blk_cell BK225.out 0).trans rfl
     have hcz16_1 : wc.cell? ⟨gb225, 1, none⟩ = some (.bool true) := (blk_cell BK225.out 1).trans rfl
     have hcz16_2 : wc.cell? ⟨gb225, 2, none⟩ = some (.bool a0_2) := (blk_cell BK225.out 2).trans rfl
     have hcz16_3 : wc.cell? ⟨gb225, 3, none⟩ = some (.bool a0_3) := (blk_cell BK225.out 3).trans rfl
     have hcz16_4 : wc.cell? ⟨gb225, 4, none⟩ = some (.bool a0_4) := (blk_cell BK225.out 4).trans rfl
     have hcz16_5 : wc.cell? ⟨gb225, 5, none⟩ = some (.bool a0_5) := (blk_cell BK225.out 5).trans rfl
     have hcz16_6 : wc.cell? ⟨gb225, 6, none⟩ = some (.int .i64 a0_6) := (blk_cell BK225.out 6).trans rfl
     have hcz16_7 : wc.cell? ⟨gb225, 7, none⟩ = some (.int .i64 a0_7) := (blk_cell BK225.out 7).trans rfl
     have hcz16_8 : wc.cell? ⟨gb225, 8, none⟩ = some (.int .i64 a0_8) := (blk_cell BK225.out 8).trans rfl
     have hcz16_9 : wc.cell? ⟨gb225, 9, none⟩ = some (.int .i64 a0_9) := (blk_cell BK225.out 9).trans rfl
     have hfz16_0 := blk_frozen BK225.out 0
     have hfz16_1 := blk_frozen BK225.out 1
     have hfz16_2 := blk_frozen BK225.out 2
     have hfz16_3 := blk_frozen BK225.out 3
     have hfz16_4 := blk_frozen BK225.out 4
     have hfz16_5 := blk_frozen BK225.out 5
     have hfz16_6 := blk_frozen BK225.out 6
     have hfz16_7 := blk_frozen BK225.out 7
     have hfz16_8 := blk_frozen BK225.out 8
     have hfz16_9 := blk_frozen BK225.out 9
     go_wp2
     go_meet
     case rel => exact ⟨_, (true), (by first | rfl | (simp; done) | (simp [*]; done)), H', ⟨by have := HJ4.out; first | omega | exact Nat.le_refl _⟩, ⟨by (with_reducible repeat (first | refine bN_ ?_ _ | refine bD_ ?_ | refine bA_ ?_ _)); exact BK225.out⟩, ⟨by (with_reducible repeat (first | refine bN_ ?_ _ | refine bD_ ?_ | refine bA_ ?_ _)); exact BK226.out⟩, ⟨by repeat (first | (with_reducible first | exact HB.out | apply zA_ | apply zN_ | apply zD_ | refine below_set ?_ GE225.out | refine below_set ?_ GE226.out) | exact HB.out)⟩⟩
    ·
     replace c14 := Bool.eq_false_iff.mpr c14
     subst c14
     rw [if_neg (show ¬ (false = true) by decide)] at H
     have H' := Aside0.mk H
     clear H
     have hnb17 := NB225_226.out
     have hnc17 := NB226_225.out
     have hcz18_0 : wc.cell? ⟨gb225, 0, none⟩ = some (.bool a0_0) := (blk_cell BK225.out 0).trans rfl
     have hcz18_1 : wc.cell? ⟨gb225, 1, none⟩ = some (.bool false) := (blk_cell BK225.out 1).trans rfl
     have hcz18_2 : wc.cell? ⟨gb225, 2, none⟩ = some (.bool a0_2) := (blk_cell BK225.out 2).trans rfl
     have hcz18_3 : wc.cell? ⟨gb225, 3, none⟩ = some (.bool a0_3) := (blk_cell BK225.out 3).trans rfl
     have hcz18_4 : wc.cell? ⟨gb225, 4, none⟩ = some (.bool a0_4) := (blk_cell BK225.out 4).trans rfl
     have hcz18_5 : wc.cell? ⟨gb225, 5, none⟩ = some (.bool a0_5) := (blk_cell BK225.out 5).trans rfl
     have hcz18_6 : wc.cell? ⟨gb225, 6, none⟩ = some (.int .i64 a0_6) := (blk_cell BK225.out 6).trans rfl
     have hcz18_7 : wc.cell? ⟨gb225, 7, none⟩ = some (.int .i64 a0_7) := (blk_cell BK225.out 7).trans rfl
     have hcz18_8 : wc.cell? ⟨gb225, 8, none⟩ = some (.int .i64 a0_8) := (blk_cell BK225.out 8).trans rfl
     have hcz18_9 : wc.cell? ⟨gb225, 9, none⟩ = some (.int .i64 a0_9) := (blk_cell BK225.out 9).trans rfl
     have hfz18_0 := blk_frozen BK225.out 0
     have hfz18_1 := blk_frozen BK225.out 1
     have hfz18_2 := blk_frozen BK225.out 2
     have hfz18_3 := blk_frozen BK225.out 3
     have hfz18_4 := blk_frozen BK225.out 4
     have hfz18_5 := blk_frozen BK225.out 5
     have hfz18_6 := blk_frozen BK225.out 6
     have hfz18_7 := blk_frozen BK225.out 7
     have hfz18_8 := blk_frozen BK225.out 8
     have hfz18_9 := blk_frozen BK225.out 9
     have hcz19_0 : wc.cell? ⟨gb226, 0, none⟩ = some (.bool a1_0) := (blk_cell BK226.out 0).trans rfl
     have hcz19_1 : wc.cell? ⟨gb226, 1, none⟩ = some (.bool a1_1) := (blk_cell BK226.out 1).trans rfl
     have hcz19_2 : wc.cell? ⟨gb226, 2, none⟩ = some (.bool a1_2) := (blk_cell BK226.out 2).trans rfl
     have hcz19_3 : wc.cell? ⟨gb226, 3, none⟩ = some (.bool a1_3) := (blk_cell BK226.out 3).trans rfl
     have hcz19_4 : wc.cell? ⟨gb226, 4, none⟩ = some (.bool a1_4) := (blk_cell BK226.out 4).trans rfl
     have hcz19_5 : wc.cell? ⟨gb226, 5, none⟩ = some (.bool a1_5) := (blk_cell BK226.out 5).trans rfl
     have hcz19_6 : wc.cell? ⟨gb226, 6, none⟩ = some (.int .i64 a1_6) := (blk_cell BK226.out 6).trans rfl
     have hcz19_7 : wc.cell? ⟨gb226, 7, none⟩ = some (.int .i64 a1_7) := (blk_cell BK226.out 7).trans rfl
     have hcz19_8 : wc.cell? ⟨gb226, 8, none⟩ = some (.int .i64 a1_8) := (blk_cell BK226.out 8).trans rfl
     have hcz19_9 : wc.cell? ⟨gb226, 9, none⟩ = some (.int .i64 a1_9) := (blk_cell BK226.out 9).trans rfl
     have hfz19_0 := blk_frozen BK226.out 0
     have hfz19_1 := blk_frozen BK226.out 1
     have hfz19_2 := blk_frozen BK226.out 2
     have hfz19_3 := blk_frozen BK226.out 3
     have hfz19_4 := blk_frozen BK226.out 4
     have hfz19_5 := blk_frozen BK226.out 5
     have hfz19_6 := blk_frozen BK226.out 6
     have hfz19_7 := blk_frozen BK226.out 7
     have hfz19_8 := blk_frozen BK226.out 8
     have hfz19_9 := blk_frozen BK226.out 9
     go_wp2
     go_meet
     case rel => exact ⟨_, (a1_1), (by first | rfl | (simp; done) | (simp [*]; done)), H', ⟨by have := HJ4.out; first | omega | exact Nat.le_refl _⟩, ⟨by (with_reducible repeat (first | refine bN_ ?_ _ | refine bD_ ?_ | refine bA_ ?_ _)); exact BK225.out⟩, ⟨by (with_reducible repeat (first | refine bN_ ?_ _ | refine bD_ ?_ | refine bA_ ?_ _)); exact BK226.out⟩, ⟨by repeat (first | (with_reducible first | exact HB.out | apply zA_ | apply zN_ | apply zD_ | refine below_set ?_ GE225.out | refine below_set ?_ GE226.out) | exact HB.out)⟩⟩
   case rest =>
    clear HC13
    (try clear c8); (try clear c8b0); (try clear c14); (try clear hcz10_0); (try clear hcz10_1); (try clear hcz10_2); (try clear hcz10_3); (try clear hcz10_4); (try clear hcz10_5); (try clear hcz10_6); (try clear hcz10_7); (try clear hcz10_8); (try clear hcz10_9); (try clear hcz12_0); (try clear hcz12_1); (try clear hcz12_2); (try clear hcz12_3); (try clear hcz12_4); (try clear hcz12_5); (try clear hcz12_6); (try clear hcz12_7); (try clear hcz12_8); (try clear hcz12_9); (try clear hcz16_0); (try clear hcz16_1); (try clear hcz16_2); (try clear hcz16_3); (try clear hcz16_4); (try clear hcz16_5); (try clear hcz16_6); (try clear hcz16_7); (try clear hcz16_8); (try clear hcz16_9); (try clear hcz18_0); (try clear hcz18_1); (try clear hcz18_2); (try clear hcz18_3); (try clear hcz18_4); (try clear hcz18_5); (try clear hcz18_6); (try clear hcz18_7); (try clear hcz18_8); (try clear hcz18_9); (try clear hcz19_0); (try clear hcz19_1); (try clear hcz19_2); (try clear hcz19_3); (try clear hcz19_4); (try clear hcz19_5); (try clear hcz19_6); (try clear hcz19_7); (try clear hcz19_8); (try clear hcz19_9); (try clear hfz10_0); (try clear hfz10_1); (try clear hfz10_2); (try clear hfz10_3); (try clear hfz10_4); (try clear hfz10_5); (try clear hfz10_6); (try clear hfz10_7); (try clear hfz10_8); (try clear hfz10_9); (try clear hfz12_0); (try clear hfz12_1); (try clear hfz12_2); (try clear hfz12_3); (try clear hfz12_4); (try clear hfz12_5); (try clear hfz12_6); (try clear hfz12_7); (try clear hfz12_8); (try clear hfz12_9); (try clear hfz16_0); (try clear hfz16_1); (try clear hfz16_2); (try clear hfz16_3); (try clear hfz16_4); (try clear hfz16_5); (try clear hfz16_6); (try clear hfz16_7); (try clear hfz16_8); (try clear hfz16_9); (try clear hfz18_0); (try clear hfz18_1); (try clear hfz18_2); (try clear hfz18_3); (try clear hfz18_4); (try clear hfz18_5); (try clear hfz18_6); (try clear hfz18_7); (try clear hfz18_8); (try clear hfz18_9); (try clear hfz19_0); (try clear hfz19_1); (try clear hfz19_2); (try clear hfz19_3); (try clear hfz19_4); (try clear hfz19_5); (try clear hfz19_6); (try clear hfz19_7); (try clear hfz19_8); (try clear hfz19_9)
    obtain ⟨kq, x19_12, rfl, HA, HJ12, BK225, BK226, HB⟩ := hcut
    cases kq with
    | zero => exact absurd HA.out (by simp [fresh_may.j1])
    | succ kj12 =>
     have H := HA.out
     clear HA
     simp only [fresh_may.j1] at H
     by_cases c20 : x19_12 = true
     ·
      subst c20
      rw [if_pos rfl] at H
      obtain rfl := Option.some.inj H
      go_wp2
      go_ret
      exact ⟨by first | rfl | (generalize ByteArray.toList _ = l_; cases l_ <;> rfl) | (simp [errW_none, errW_some] <;> rfl) | (simp [*, errW_none, errW_some] <;> rfl), by repeat (first | (with_reducible first | exact HB.out | apply zA_ | apply zN_ | apply zD_ | refine below_set ?_ GE225.out | refine below_set ?_ GE226.out) | exact HB.out)⟩
     ·
      replace c20 := Bool.eq_false_iff.mpr c20
      subst c20
      rw [if_neg (show ¬ (false = true) by decide)] at H
      by_cases c21 : a2 < a3
      ·
       rw [if_pos c21] at H
       have c21b0 : decide (a2 < a3) = true := decide_eq_true c21
       clear c21
       by_cases c22 : x9_4 = true
       ·
        subst c22
        rw [if_pos rfl] at H
        by_cases c23 : a0_8 < 0
        ·
         rw [if_pos c23] at H
         have c23b0 : decide (a0_8 < 0) = true := decide_eq_true c23
         clear c23
         obtain rfl := Option.some.inj H
         have hnb24 := NB225_226.out
         have hnc24 := NB226_225.out
         have hcz25_0 : wc.cell? ⟨gb225, 0, none⟩ = some (.bool a0_0) := (blk_cell BK225.out 0).trans rfl
         have hcz25_1 : wc.cell? ⟨gb225, 1, none⟩ = some (.bool a0_1) := (blk_cell BK225.out 1).trans rfl
         have hcz25_2 : wc.cell? ⟨gb225, 2, none⟩ = some (.bool a0_2) := (blk_cell BK225.out 2).trans rfl
         have hcz25_3 : wc.cell? ⟨gb225, 3, none⟩ = some (.bool a0_3) := (blk_cell BK225.out 3).trans rfl
         have hcz25_4 : wc.cell? ⟨gb225, 4, none⟩ = some (.bool a0_4) := (blk_cell BK225.out 4).trans rfl
         have hcz25_5 : wc.cell? ⟨gb225, 5, none⟩ = some (.bool a0_5) := (blk_cell BK225.out 5).trans rfl
         have hcz25_6 : wc.cell? ⟨gb225, 6, none⟩ = some (.int .i64 a0_6) := (blk_cell BK225.out 6).trans rfl
         have hcz25_7 : wc.cell? ⟨gb225, 7, none⟩ = some (.int .i64 a0_7) := (blk_cell BK225.out 7).trans rfl
         have hcz25_8 : wc.cell? ⟨gb225, 8, none⟩ = some (.int .i64 a0_8) := (blk_cell BK225.out 8).trans rfl
         have hcz25_9 : wc.cell? ⟨gb225, 9, none⟩ = some (.int .i64 a0_9) := (blk_cell BK225.out 9).trans rfl
         have hfz25_0 := blk_frozen BK225.out 0
         have hfz25_1 := blk_frozen BK225.out 1
         have hfz25_2 := blk_frozen BK225.out 2
         have hfz25_3 := blk_frozen BK225.out 3
         have hfz25_4 := blk_frozen BK225.out 4
         have hfz25_5 := blk_frozen BK225.out 5
         have hfz25_6 := blk_frozen BK225.out 6
         have hfz25_7 := blk_frozen BK225.out 7
         have hfz25_8 := blk_frozen BK225.out 8
         have hfz25_9 := blk_frozen BK225.out 9
         go_wp2
         go_ret
         exact ⟨by first | rfl | (generalize ByteArray.toList _ = l_; cases l_ <;> rfl) | (simp [errW_none, errW_some] <;> rfl) | (simp [*, errW_none, errW_some] <;> rfl), by repeat (first | (with_reducible first | exact HB.out | apply zA_ | apply zN_ | apply zD_ | refine below_set ?_ GE225.out | refine below_set ?_ GE226.out) | exact HB.out)⟩
        ·
         rw [if_neg c23] at H
         have c23b0 : decide (a0_8 < 0) = false := decide_eq_false c23
         clear c23
         by_cases c26 : (wrap64 (a3 - a2)) ≥ a0_8
         ·
          rw [if_pos c26] at H
          have c26b0 : decide (a0_8 ≤ (wrap64 (a3 - a2))) = true := decide_eq_true c26
          clear c26
          obtain rfl := Option.some.inj H
          have hnb27 := NB225_226.out
          have hnc27 := NB226_225.out
          have hcz28_0 : wc.cell? ⟨gb225, 0, none⟩ = some (.bool a0_0) := (blk_cell BK225.out 0).trans rfl
          have hcz28_1 : wc.cell? ⟨gb225, 1, none⟩ = some (.bool a0_1) := (blk_cell BK225.out 1).trans rfl
          have hcz28_2 : wc.cell? ⟨gb225, 2, none⟩ = some (.bool a0_2) := (blk_cell BK225.out 2).trans rfl
          have hcz28_3 : wc.cell? ⟨gb225, 3, none⟩ = some (.bool a0_3) := (blk_cell BK225.out 3).trans rfl
          have hcz28_4 : wc.cell? ⟨gb225, 4, none⟩ = some (.bool a0_4) := (blk_cell BK225.out 4).trans rfl
          have hcz28_5 : wc.cell? ⟨gb225, 5, none⟩ = some (.bool a0_5) := (blk_cell BK225.out 5).trans rfl
          have hcz28_6 : wc.cell? ⟨gb225, 6, none⟩ = some (.int .i64 a0_6) := (blk_cell BK225.out 6).trans rfl
          have hcz28_7 : wc.cell? ⟨gb225, 7, none⟩ = some (.int .i64 a0_7) := (blk_cell BK225.out 7).trans rfl
          have hcz28_8 : wc.cell? ⟨gb225, 8, none⟩ = some (.int .i64 a0_8) := (blk_cell BK225.out 8).trans rfl
          have hcz28_9 : wc.cell? ⟨gb225, 9, none⟩ = some (.int .i64 a0_9) := (blk_cell BK225.out 9).trans rfl
          have hfz28_0 := blk_frozen BK225.out 0
          have hfz28_1 := blk_frozen BK225.out 1
          have hfz28_2 := blk_frozen BK225.out 2
          have hfz28_3 := blk_frozen BK225.out 3
          have hfz28_4 := blk_frozen BK225.out 4
          have hfz28_5 := blk_frozen BK225.out 5
          have hfz28_6 := blk_frozen BK225.out 6
          have hfz28_7 := blk_frozen BK225.out 7
          have hfz28_8 := blk_frozen BK225.out 8
          have hfz28_9 := blk_frozen BK225.out 9
          go_wp2
          go_ret
          exact ⟨by first | rfl | (generalize ByteArray.toList _ = l_; cases l_ <;> rfl) | (simp [errW_none, errW_some] <;> rfl) | (simp [*, errW_none, errW_some] <;> rfl), by repeat (first | (with_reducible first | exact HB.out | apply zA_ | apply zN_ | apply zD_ | refine below_set ?_ GE225.out | refine below_set ?_ GE226.out) | exact HB.out)⟩
         ·
          rw [if_neg c26] at H
          have c26b0 : decide (a0_8 ≤ (wrap64 (a3 - a2))) = false := decide_eq_false c26
          clear c26
          by_cases c29 : a0_9 ≥ 0
          ·
           rw [if_pos c29] at H
           have c29b0 : decide (0 ≤ a0_9) = true := decide_eq_true c29
           clear c29
           obtain rfl := Option.some.inj H
           have hnb30 := NB225_226.out
           have hnc30 := NB226_225.out
           have hcz31_0 : wc.cell? ⟨gb225, 0, none⟩ = some (.bool a0_0) := (blk_cell BK225.out 0).trans rfl
           have hcz31_1 : wc.cell? ⟨gb225, 1, none⟩ = some (.bool a0_1) := (blk_cell BK225.out 1).trans rfl
           have hcz31_2 : wc.cell? ⟨gb225, 2, none⟩ = some (.bool a0_2) := (blk_cell BK225.out 2).trans rfl
           have hcz31_3 : wc.cell? ⟨gb225, 3, none⟩ = some (.bool a0_3) := (blk_cell BK225.out 3).trans rfl
           have hcz31_4 : wc.cell? ⟨gb225, 4, none⟩ = some (.bool a0_4) := (blk_cell BK225.out 4).trans rfl
           have hcz31_5 : wc.cell? ⟨gb225, 5, none⟩ = some (.bool a0_5) := (blk_cell BK225.out 5).trans rfl
           have hcz31_6 : wc.cell? ⟨gb225, 6, none⟩ = some (.int .i64 a0_6) := (blk_cell BK225.out 6).trans rfl
           have hcz31_7 : wc.cell? ⟨gb225, 7, none⟩ = some (.int .i64 a0_7) := (blk_cell BK225.out 7).trans rfl
           have hcz31_8 : wc.cell? ⟨gb225, 8, none⟩ = some (.int .i64 a0_8) := (blk_cell BK225.out 8).trans rfl
           have hcz31_9 : wc.cell? ⟨gb225, 9, none⟩ = some (.int .i64 a0_9) := (blk_cell BK225.out 9).trans rfl
           have hfz31_0 := blk_frozen BK225.out 0
           have hfz31_1 := blk_frozen BK225.out 1
           have hfz31_2 := blk_frozen BK225.out 2
           have hfz31_3 := blk_frozen BK225.out 3
           have hfz31_4 := blk_frozen BK225.out 4
           have hfz31_5 := blk_frozen BK225.out 5
           have hfz31_6 := blk_frozen BK225.out 6
           have hfz31_7 := blk_frozen BK225.out 7
           have hfz31_8 := blk_frozen BK225.out 8
           have hfz31_9 := blk_frozen BK225.out 9
           go_wp2
           go_ret
           exact ⟨by first | rfl | (generalize ByteArray.toList _ = l_; cases l_ <;> rfl) | (simp [errW_none, errW_some] <;> rfl) | (simp [*, errW_none, errW_some] <;> rfl), by repeat (first | (with_reducible first | exact HB.out | apply zA_ | apply zN_ | apply zD_ | refine below_set ?_ GE225.out | refine below_set ?_ GE226.out) | exact HB.out)⟩
          ·
           rw [if_neg c29] at H
           have c29b0 : decide (0 ≤ a0_9) = false := decide_eq_false c29
           clear c29
           obtain rfl := Option.some.inj H
           have hnb32 := NB225_226.out
           have hnc32 := NB226_225.out
           have hcz33_0 : wc.cell? ⟨gb225, 0, none⟩ = some (.bool a0_0) := (blk_cell BK225.out 0).trans rfl
           have hcz33_1 : wc.cell? ⟨gb225, 1, none⟩ = some (.bool a0_1) := (blk_cell BK225.out 1).trans rfl
           have hcz33_2 : wc.cell? ⟨gb225, 2, none⟩ = some (.bool a0_2) := (blk_cell BK225.out 2).trans rfl
           have hcz33_3 : wc.cell? ⟨gb225, 3, none⟩ = some (.bool a0_3) := (blk_cell BK225.out 3).trans rfl
           have hcz33_4 : wc.cell? ⟨gb225, 4, none⟩ = some (.bool a0_4) := (blk_cell BK225.out 4).trans rfl
           have hcz33_5 : wc.cell? ⟨gb225, 5, none⟩ = some (.bool a0_5) := (blk_cell BK225.out 5).trans rfl
           have hcz33_6 : wc.cell? ⟨gb225, 6, none⟩ = some (.int .i64 a0_6) := (blk_cell BK225.out 6).trans rfl
           have hcz33_7 : wc.cell? ⟨gb225, 7, none⟩ = some (.int .i64 a0_7) := (blk_cell BK225.out 7).trans rfl
           have hcz33_8 : wc.cell? ⟨gb225, 8, none⟩ = some (.int .i64 a0_8) := (blk_cell BK225.out 8).trans rfl
           have hcz33_9 : wc.cell? ⟨gb225, 9, none⟩ = some (.int .i64 a0_9) := (blk_cell BK225.out 9).trans rfl
           have hfz33_0 := blk_frozen BK225.out 0
           have hfz33_1 := blk_frozen BK225.out 1
           have hfz33_2 := blk_frozen BK225.out 2
           have hfz33_3 := blk_frozen BK225.out 3
           have hfz33_4 := blk_frozen BK225.out 4
           have hfz33_5 := blk_frozen BK225.out 5
           have hfz33_6 := blk_frozen BK225.out 6
           have hfz33_7 := blk_frozen BK225.out 7
           have hfz33_8 := blk_frozen BK225.out 8
           have hfz33_9 := blk_frozen BK225.out 9
           go_wp2
           go_ret
           exact ⟨by first | rfl | (generalize ByteArray.toList _ = l_; cases l_ <;> rfl) | (simp [errW_none, errW_some] <;> rfl) | (simp [*, errW_none, errW_some] <;> rfl), by repeat (first | (with_reducible first | exact HB.out | apply zA_ | apply zN_ | apply zD_ | refine below_set ?_ GE225.out | refine below_set ?_ GE226.out) | exact HB.out)⟩
       ·
        replace c22 := Bool.eq_false_iff.mpr c22
        subst c22
        rw [if_neg (show ¬ (false = true) by decide)] at H
        obtain rfl := Option.some.inj H
        go_wp2
        go_ret
        exact ⟨by first | rfl | (generalize ByteArray.toList _ = l_; cases l_ <;> rfl) | (simp [errW_none, errW_some] <;> rfl) | (simp [*, errW_none, errW_some] <;> rfl), by repeat (first | (with_reducible first | exact HB.out | apply zA_ | apply zN_ | apply zD_ | refine below_set ?_ GE225.out | refine below_set ?_ GE226.out) | exact HB.out)⟩
      ·
       rw [if_neg c21] at H
       have c21b0 : decide (a2 < a3) = false := decide_eq_false c21
       clear c21
       by_cases c34 : x9_4 = true
       ·
        subst c34
        rw [if_pos rfl] at H
        by_cases c35 : a0_9 ≥ 0
        ·
         rw [if_pos c35] at H
         have c35b0 : decide (0 ≤ a0_9) = true := decide_eq_true c35
         clear c35
         by_cases c36 : a0_8 < 0
         ·
          rw [if_pos c36] at H
          have c36b0 : decide (a0_8 < 0) = true := decide_eq_true c36
          clear c36
          by_cases c37 : a1_4 = true
          ·
           subst c37
           rw [if_pos rfl] at H
           obtain rfl := Option.some.inj H
           have hnb38 := NB225_226.out
           have hnc38 := NB226_225.out
           have hcz39_0 : wc.cell? ⟨gb225, 0, none⟩ = some (.bool a0_0) := (blk_cell BK225.out 0).trans rfl
           have hcz39_1 : wc.cell? ⟨gb225, 1, none⟩ = some (.bool a0_1) := (blk_cell BK225.out 1).trans rfl
           have hcz39_2 : wc.cell? ⟨gb225, 2, none⟩ = some (.bool a0_2) := (blk_cell BK225.out 2).trans rfl
           have hcz39_3 : wc.cell? ⟨gb225, 3, none⟩ = some (.bool a0_3) := (blk_cell BK225.out 3).trans rfl
           have hcz39_4 : wc.cell? ⟨gb225, 4, none⟩ = some (.bool a0_4) := (blk_cell BK225.out 4).trans rfl
           have hcz39_5 : wc.cell? ⟨gb225, 5, none⟩ = some (.bool a0_5) := (blk_cell BK225.out 5).trans rfl
           have hcz39_6 : wc.cell? ⟨gb225, 6, none⟩ = some (.int .i64 a0_6) := (blk_cell BK225.out 6).trans rfl
           have hcz39_7 : wc.cell? ⟨gb225, 7, none⟩ = some (.int .i64 a0_7) := (blk_cell BK225.out 7).trans rfl
           have hcz39_8 : wc.cell? ⟨gb225, 8, none⟩ = some (.int .i64 a0_8) := (blk_cell BK225.out 8).trans rfl
           have hcz39_9 : wc.cell? ⟨gb225, 9, none⟩ = some (.int .i64 a0_9) := (blk_cell BK225.out 9).trans rfl
           have hfz39_0 := blk_frozen BK225.out 0
           have hfz39_1 := blk_frozen BK225.out 1
           have hfz39_2 := blk_frozen BK225.out 2
           have hfz39_3 := blk_frozen BK225.out 3
           have hfz39_4 := blk_frozen BK225.out 4
           have hfz39_5 := blk_frozen BK225.out 5
           have hfz39_6 := blk_frozen BK225.out 6
           have hfz39_7 := blk_frozen BK225.out 7
           have hfz39_8 := blk_frozen BK225.out 8
           have hfz39_9 := blk_frozen BK225.out 9
           have hcz40_0 : wc.cell? ⟨gb226, 0, none⟩ = some (.bool a1_0) := (blk_cell BK226.out 0).trans rfl
           have hcz40_1 : wc.cell? ⟨gb226, 1, none⟩ = some (.bool a1_1) := (blk_cell BK226.out 1).trans rfl
           have hcz40_2 : wc.cell? ⟨gb226, 2, none⟩ = some (.bool a1_2) := (blk_cell BK226.out 2).trans rfl
           have hcz40_3 : wc.cell? ⟨gb226, 3, none⟩ = some (.bool a1_3) := (blk_cell BK226.out 3).trans rfl
           have hcz40_4 : wc.cell? ⟨gb226, 4, none⟩ = some (.bool true) := (blk_cell BK226.out 4).trans rfl
           have hcz40_5 : wc.cell? ⟨gb226, 5, none⟩ = some (.bool a1_5) := (blk_cell BK226.out 5).trans rfl
           have hcz40_6 : wc.cell? ⟨gb226, 6, none⟩ = some (.int .i64 a1_6) := (blk_cell BK226.out 6).trans rfl
           have hcz40_7 : wc.cell? ⟨gb226, 7, none⟩ = some (.int .i64 a1_7) := (blk_cell BK226.out 7).trans rfl
           have hcz40_8 : wc.cell? ⟨gb226, 8, none⟩ = some (.int .i64 a1_8) := (blk_cell BK226.out 8).trans rfl
           have hcz40_9 : wc.cell? ⟨gb226, 9, none⟩ = some (.int .i64 a1_9) := (blk_cell BK226.out 9).trans rfl
           have hfz40_0 := blk_frozen BK226.out 0
           have hfz40_1 := blk_frozen BK226.out 1
           have hfz40_2 := blk_frozen BK226.out 2
           have hfz40_3 := blk_frozen BK226.out 3
           have hfz40_4 := blk_frozen BK226.out 4
           have hfz40_5 := blk_frozen BK226.out 5
           have hfz40_6 := blk_frozen BK226.out 6
           have hfz40_7 := blk_frozen BK226.out 7
           have hfz40_8 := blk_frozen BK226.out 8
           have hfz40_9 := blk_frozen BK226.out 9
           go_wp2
           go_ret
           exact ⟨by first | rfl | (generalize ByteArray.toList _ = l_; cases l_ <;> rfl) | (simp [errW_none, errW_some] <;> rfl) | (simp [*, errW_none, errW_some] <;> rfl), by repeat (first | (with_reducible first | exact HB.out | apply zA_ | apply zN_ | apply zD_ | refine below_set ?_ GE225.out | refine below_set ?_ GE226.out) | exact HB.out)⟩
          ·
           replace c37 := Bool.eq_false_iff.mpr c37
           subst c37
           rw [if_neg (show ¬ (false = true) by decide)] at H
           by_cases c41 : a1_7 < 0
           ·
            rw [if_pos c41] at H
            have c41b0 : decide (a1_7 < 0) = true := decide_eq_true c41
            clear c41
            obtain rfl := Option.some.inj H
            have hnb42 := NB225_226.out
            have hnc42 := NB226_225.out
            have hcz43_0 : wc.cell? ⟨gb225, 0, none⟩ = some (.bool a0_0) := (blk_cell BK225.out 0).trans rfl
            have hcz43_1 : wc.cell? ⟨gb225, 1, none⟩ = some (.bool a0_1) := (blk_cell BK225.out 1).trans rfl
            have hcz43_2 : wc.cell? ⟨gb225, 2, none⟩ = some (.bool a0_2) := (blk_cell BK225.out 2).trans rfl
            have hcz43_3 : wc.cell? ⟨gb225, 3, none⟩ = some (.bool a0_3) := (blk_cell BK225.out 3).trans rfl
            have hcz43_4 : wc.cell? ⟨gb225, 4, none⟩ = some (.bool a0_4) := (blk_cell BK225.out 4).trans rfl
            have hcz43_5 : wc.cell? ⟨gb225, 5, none⟩ = some (.bool a0_5) := (blk_cell BK225.out 5).trans rfl
            have hcz43_6 : wc.cell? ⟨gb225, 6, none⟩ = some (.int .i64 a0_6) := (blk_cell BK225.out 6).trans rfl
            have hcz43_7 : wc.cell? ⟨gb225, 7, none⟩ = some (.int .i64 a0_7) := (blk_cell BK225.out 7).trans rfl
            have hcz43_8 : wc.cell? ⟨gb225, 8, none⟩ = some (.int .i64 a0_8) := (blk_cell BK225.out 8).trans rfl
            have hcz43_9 : wc.cell? ⟨gb225, 9, none⟩ = some (.int .i64 a0_9) := (blk_cell BK225.out 9).trans rfl
            have hfz43_0 := blk_frozen BK225.out 0
            have hfz43_1 := blk_frozen BK225.out 1
            have hfz43_2 := blk_frozen BK225.out 2
            have hfz43_3 := blk_frozen BK225.out 3
            have hfz43_4 := blk_frozen BK225.out 4
            have hfz43_5 := blk_frozen BK225.out 5
            have hfz43_6 := blk_frozen BK225.out 6
            have hfz43_7 := blk_frozen BK225.out 7
            have hfz43_8 := blk_frozen BK225.out 8
            have hfz43_9 := blk_frozen BK225.out 9
            have hcz44_0 : wc.cell? ⟨gb226, 0, none⟩ = some (.bool a1_0) := (blk_cell BK226.out 0).trans rfl
            have hcz44_1 : wc.cell? ⟨gb226, 1, none⟩ = some (.bool a1_1) := (blk_cell BK226.out 1).trans rfl
            have hcz44_2 : wc.cell? ⟨gb226, 2, none⟩ = some (.bool a1_2) := (blk_cell BK226.out 2).trans rfl
            have hcz44_3 : wc.cell? ⟨gb226, 3, none⟩ = some (.bool a1_3) := (blk_cell BK226.out 3).trans rfl
            have hcz44_4 : wc.cell? ⟨gb226, 4, none⟩ = some (.bool false) := (blk_cell BK226.out 4).trans rfl
            have hcz44_5 : wc.cell? ⟨gb226, 5, none⟩ = some (.bool a1_5) := (blk_cell BK226.out 5).trans rfl
            have hcz44_6 : wc.cell? ⟨gb226, 6, none⟩ = some (.int .i64 a1_6) := (blk_cell BK226.out 6).trans rfl
            have hcz44_7 : wc.cell? ⟨gb226, 7, none⟩ = some (.int .i64 a1_7) := (blk_cell BK226.out 7).trans rfl
            have hcz44_8 : wc.cell? ⟨gb226, 8, none⟩ = some (.int .i64 a1_8) := (blk_cell BK226.out 8).trans rfl
            have hcz44_9 : wc.cell? ⟨gb226, 9, none⟩ = some (.int .i64 a1_9) := (blk_cell BK226.out 9).trans rfl
            have hfz44_0 := blk_frozen BK226.out 0
            have hfz44_1 := blk_frozen BK226.out 1
            have hfz44_2 := blk_frozen BK226.out 2
            have hfz44_3 := blk_frozen BK226.out 3
            have hfz44_4 := blk_frozen BK226.out 4
            have hfz44_5 := blk_frozen BK226.out 5
            have hfz44_6 := blk_frozen BK226.out 6
            have hfz44_7 := blk_frozen BK226.out 7
            have hfz44_8 := blk_frozen BK226.out 8
            have hfz44_9 := blk_frozen BK226.out 9
            go_wp2
            go_ret
            exact ⟨by first | rfl | (generalize ByteArray.toList _ = l_; cases l_ <;> rfl) | (simp [errW_none, errW_some] <;> rfl) | (simp [*, errW_none, errW_some] <;> rfl), by repeat (first | (with_reducible first | exact HB.out | apply zA_ | apply zN_ | apply zD_ | refine below_set ?_ GE225.out | refine below_set ?_ GE226.out) | exact HB.out)⟩
           ·
            rw [if_neg c41] at H
            have c41b0 : decide (a1_7 < 0) = false := decide_eq_false c41
            clear c41
            obtain rfl := Option.some.inj H
            have hnb45 := NB225_226.out
            have hnc45 := NB226_225.out
            have hcz46_0 : wc.cell? ⟨gb225, 0, none⟩ = some (.bool a0_0) := (blk_cell BK225.out 0).trans rfl
            have hcz46_1 : wc.cell? ⟨gb225, 1, none⟩ = some (.bool a0_1) := (blk_cell BK225.out 1).trans rfl
            have hcz46_2 : wc.cell? ⟨gb225, 2, none⟩ = some (.bool a0_2) := (blk_cell BK225.out 2).trans rfl
            have hcz46_3 : wc.cell? ⟨gb225, 3, none⟩ = some (.bool a0_3) := (blk_cell BK225.out 3).trans rfl
            have hcz46_4 : wc.cell? ⟨gb225, 4, none⟩ = some (.bool a0_4) := (blk_cell BK225.out 4).trans rfl
            have hcz46_5 : wc.cell? ⟨gb225, 5, none⟩ = some (.bool a0_5) := (blk_cell BK225.out 5).trans rfl
            have hcz46_6 : wc.cell? ⟨gb225, 6, none⟩ = some (.int .i64 a0_6) := (blk_cell BK225.out 6).trans rfl
            have hcz46_7 : wc.cell? ⟨gb225, 7, none⟩ = some (.int .i64 a0_7) := (blk_cell BK225.out 7).trans rfl
            have hcz46_8 : wc.cell? ⟨gb225, 8, none⟩ = some (.int .i64 a0_8) := (blk_cell BK225.out 8).trans rfl
            have hcz46_9 : wc.cell? ⟨gb225, 9, none⟩ = some (.int .i64 a0_9) := (blk_cell BK225.out 9).trans rfl
            have hfz46_0 := blk_frozen BK225.out 0
            have hfz46_1 := blk_frozen BK225.out 1
            have hfz46_2 := blk_frozen BK225.out 2
            have hfz46_3 := blk_frozen BK225.out 3
            have hfz46_4 := blk_frozen BK225.out 4
            have hfz46_5 := blk_frozen BK225.out 5
            have hfz46_6 := blk_frozen BK225.out 6
            have hfz46_7 := blk_frozen BK225.out 7
            have hfz46_8 := blk_frozen BK225.out 8
            have hfz46_9 := blk_frozen BK225.out 9
            have hcz47_0 : wc.cell? ⟨gb226, 0, none⟩ = some (.bool a1_0) := (blk_cell BK226.out 0).trans rfl
            have hcz47_1 : wc.cell? ⟨gb226, 1, none⟩ = some (.bool a1_1) := (blk_cell BK226.out 1).trans rfl
            have hcz47_2 : wc.cell? ⟨gb226, 2, none⟩ = some (.bool a1_2) := (blk_cell BK226.out 2).trans rfl
            have hcz47_3 : wc.cell? ⟨gb226, 3, none⟩ = some (.bool a1_3) := (blk_cell BK226.out 3).trans rfl
            have hcz47_4 : wc.cell? ⟨gb226, 4, none⟩ = some (.bool false) := (blk_cell BK226.out 4).trans rfl
            have hcz47_5 : wc.cell? ⟨gb226, 5, none⟩ = some (.bool a1_5) := (blk_cell BK226.out 5).trans rfl
            have hcz47_6 : wc.cell? ⟨gb226, 6, none⟩ = some (.int .i64 a1_6) := (blk_cell BK226.out 6).trans rfl
            have hcz47_7 : wc.cell? ⟨gb226, 7, none⟩ = some (.int .i64 a1_7) := (blk_cell BK226.out 7).trans rfl
            have hcz47_8 : wc.cell? ⟨gb226, 8, none⟩ = some (.int .i64 a1_8) := (blk_cell BK226.out 8).trans rfl
            have hcz47_9 : wc.cell? ⟨gb226, 9, none⟩ = some (.int .i64 a1_9) := (blk_cell BK226.out 9).trans rfl
            have hfz47_0 := blk_frozen BK226.out 0
            have hfz47_1 := blk_frozen BK226.out 1
            have hfz47_2 := blk_frozen BK226.out 2
            have hfz47_3 := blk_frozen BK226.out 3
            have hfz47_4 := blk_frozen BK226.out 4
            have hfz47_5 := blk_frozen BK226.out 5
            have hfz47_6 := blk_frozen BK226.out 6
            have hfz47_7 := blk_frozen BK226.out 7
            have hfz47_8 := blk_frozen BK226.out 8
            have hfz47_9 := blk_frozen BK226.out 9
            go_wp2
            go_ret
            exact ⟨by first | rfl | (generalize ByteArray.toList _ = l_; cases l_ <;> rfl) | (simp [errW_none, errW_some] <;> rfl) | (simp [*, errW_none, errW_some] <;> rfl), by repeat (first | (with_reducible first | exact HB.out | apply zA_ | apply zN_ | apply zD_ | refine below_set ?_ GE225.out | refine below_set ?_ GE226.out) | exact HB.out)⟩
         ·
          rw [if_neg c36] at H
          have c36b0 : decide (a0_8 < 0) = false := decide_eq_false c36
          clear c36
          obtain rfl := Option.some.inj H
          have hnb48 := NB225_226.out
          have hnc48 := NB226_225.out
          have hcz49_0 : wc.cell? ⟨gb225, 0, none⟩ = some (.bool a0_0) := (blk_cell BK225.out 0).trans rfl
          have hcz49_1 : wc.cell? ⟨gb225, 1, none⟩ = some (.bool a0_1) := (blk_cell BK225.out 1).trans rfl
          have hcz49_2 : wc.cell? ⟨gb225, 2, none⟩ = some (.bool a0_2) := (blk_cell BK225.out 2).trans rfl
          have hcz49_3 : wc.cell? ⟨gb225, 3, none⟩ = some (.bool a0_3) := (blk_cell BK225.out 3).trans rfl
          have hcz49_4 : wc.cell? ⟨gb225, 4, none⟩ = some (.bool a0_4) := (blk_cell BK225.out 4).trans rfl
          have hcz49_5 : wc.cell? ⟨gb225, 5, none⟩ = some (.bool a0_5) := (blk_cell BK225.out 5).trans rfl
          have hcz49_6 : wc.cell? ⟨gb225, 6, none⟩ = some (.int .i64 a0_6) := (blk_cell BK225.out 6).trans rfl
          have hcz49_7 : wc.cell? ⟨gb225, 7, none⟩ = some (.int .i64 a0_7) := (blk_cell BK225.out 7).trans rfl
          have hcz49_8 : wc.cell? ⟨gb225, 8, none⟩ = some (.int .i64 a0_8) := (blk_cell BK225.out 8).trans rfl
          have hcz49_9 : wc.cell? ⟨gb225, 9, none⟩ = some (.int .i64 a0_9) := (blk_cell BK225.out 9).trans rfl
          have hfz49_0 := blk_frozen BK225.out 0
          have hfz49_1 := blk_frozen BK225.out 1
          have hfz49_2 := blk_frozen BK225.out 2
          have hfz49_3 := blk_frozen BK225.out 3
          have hfz49_4 := blk_frozen BK225.out 4
          have hfz49_5 := blk_frozen BK225.out 5
          have hfz49_6 := blk_frozen BK225.out 6
          have hfz49_7 := blk_frozen BK225.out 7
          have hfz49_8 := blk_frozen BK225.out 8
          have hfz49_9 := blk_frozen BK225.out 9
          go_wp2
          go_ret
          exact ⟨by first | rfl | (generalize ByteArray.toList _ = l_; cases l_ <;> rfl) | (simp [errW_none, errW_some] <;> rfl) | (simp [*, errW_none, errW_some] <;> rfl), by repeat (first | (with_reducible first | exact HB.out | apply zA_ | apply zN_ | apply zD_ | refine below_set ?_ GE225.out | refine below_set ?_ GE226.out) | exact HB.out)⟩
        ·
         rw [if_neg c35] at H
         have c35b0 : decide (0 ≤ a0_9) = false := decide_eq_false c35
         clear c35
         obtain rfl := Option.some.inj H
         have hnb50 := NB225_226.out
         have hnc50 := NB226_225.out
         have hcz51_0 : wc.cell? ⟨gb225, 0, none⟩ = some (.bool a0_0) := (blk_cell BK225.out 0).trans rfl
         have hcz51_1 : wc.cell? ⟨gb225, 1, none⟩ = some (.bool a0_1) := (blk_cell BK225.out 1).trans rfl
         have hcz51_2 : wc.cell? ⟨gb225, 2, none⟩ = some (.bool a0_2) := (blk_cell BK225.out 2).trans rfl
         have hcz51_3 : wc.cell? ⟨gb225, 3, none⟩ = some (.bool a0_3) := (blk_cell BK225.out 3).trans rfl
         have hcz51_4 : wc.cell? ⟨gb225, 4, none⟩ = some (.bool a0_4) := (blk_cell BK225.out 4).trans rfl
         have hcz51_5 : wc.cell? ⟨gb225, 5, none⟩ = some (.bool a0_5) := (blk_cell BK225.out 5).trans rfl
         have hcz51_6 : wc.cell? ⟨gb225, 6, none⟩ = some (.int .i64 a0_6) := (blk_cell BK225.out 6).trans rfl
         have hcz51_7 : wc.cell? ⟨gb225, 7, none⟩ = some (.int .i64 a0_7) := (blk_cell BK225.out 7).trans rfl
         have hcz51_8 : wc.cell? ⟨gb225, 8, none⟩ = some (.int .i64 a0_8) := (blk_cell BK225.out 8).trans rfl
         have hcz51_9 : wc.cell? ⟨gb225, 9, none⟩ = some (.int .i64 a0_9) := (blk_cell BK225.out 9).trans rfl
         have hfz51_0 := blk_frozen BK225.out 0
         have hfz51_1 := blk_frozen BK225.out 1
         have hfz51_2 := blk_frozen BK225.out 2
         have hfz51_3 := blk_frozen BK225.out 3
         have hfz51_4 := blk_frozen BK225.out 4
         have hfz51_5 := blk_frozen BK225.out 5
         have hfz51_6 := blk_frozen BK225.out 6
         have hfz51_7 := blk_frozen BK225.out 7
         have hfz51_8 := blk_frozen BK225.out 8
         have hfz51_9 := blk_frozen BK225.out 9
         go_wp2
         go_ret
         exact ⟨by first | rfl | (generalize ByteArray.toList _ = l_; cases l_ <;> rfl) | (simp [errW_none, errW_some] <;> rfl) | (simp [*, errW_none, errW_some] <;> rfl), by repeat (first | (with_reducible first | exact HB.out | apply zA_ | apply zN_ | apply zD_ | refine below_set ?_ GE225.out | refine below_set ?_ GE226.out) | exact HB.out)⟩
       ·
        replace c34 := Bool.eq_false_iff.mpr c34
        subst c34
        rw [if_neg (show ¬ (false = true) by decide)] at H
        obtain rfl := Option.some.inj H
        go_wp2
        go_ret
        exact ⟨by first | rfl | (generalize ByteArray.toList _ = l_; cases l_ <;> rfl) | (simp [errW_none, errW_some] <;> rfl) | (simp [*, errW_none, errW_some] <;> rfl), by repeat (first | (with_reducible first | exact HB.out | apply zA_ | apply zN_ | apply zD_ | refine below_set ?_ GE225.out | refine below_set ?_ GE226.out) | exact HB.out)⟩

end Go.Proofs.YtgpekljckdgggaaGreatDoor.PAll
