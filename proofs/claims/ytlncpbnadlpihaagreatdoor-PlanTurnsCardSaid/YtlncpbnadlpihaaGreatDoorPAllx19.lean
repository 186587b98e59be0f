import Derived.Deep.Cut
import Derived.Deep.CutRange
import Derived.Deep.CutBlock
import Derived.Test.YtlncpbnadlpihaaGreatDoorPAllx0
import Derived.Test.YtlncpbnadlpihaaGreatDoorPAllx5
import Derived.Test.YtlncpbnadlpihaaGreatDoorPAllx17
import Derived.Test.YtlncpbnadlpihaaGreatDoorPAllx18
namespace Go.Proofs.YtlncpbnadlpihaaGreatDoor.PAll
open Go.RowKit Go.Proofs.YtlncpbnadlpihaaGreatDoorW.PrintWords Go.Proofs.YtlncpbnadlpihaaGreatDoorW.PrintLast Go.Proofs.YtlncpbnadlpihaaGreatDoorW.PrintMore
attribute [local go_sem] max2_int min2_int max_two min_two max_three min_three max_four min_four   -- for this text's walks alone
set_option linter.unusedVariables false
set_option linter.unusedSimpArgs false

/-! ### pantrylaw10_PlanTurns: function 4 -/
mutual
def pantrylaw10_PlanTurns.j0 : Nat → Bool → List (S57) → List (S57) → Option (Bool)
 | 0, _, _, _ => none
 | k + 1, x35, x306000, x307000 => if x35 = true then (some true) else ((plan_Diff.f k x306000 x306000).bind fun bt312 => ((plan_Diff.f k x306000 x307000).bind fun bt316 => ((plan_Diff.f k x307000 x306000).bind fun bt320 => (if (bt312.1.length : Int) = (x306000.length : Int) then (pantrylaw10_PlanTurns.j1 k bt312.1 bt316.1 bt320.1 ((bt316.1.length : Int) != (bt320.1.length : Int))) else (pantrylaw10_PlanTurns.j1 k bt312.1 bt316.1 bt320.1 true)))))
def pantrylaw10_PlanTurns.j1 : Nat → List (S40) → List (S40) → List (S40) → Bool → Option (Bool)
 | 0, _, _, _, _ => none
 | k + 1, x5, x7, x9, x66 => if x66 = true then (none) else (pantrylaw10_PlanTurns.l0 k x7 x9 x5 (x5.length : Int) 0)
def pantrylaw10_PlanTurns.l0 : Nat → List (S40) → List (S40) → List (S40) → Int → Int → Option (Bool)
 | 0, _, _, _, _, _ => none
 | k + 1, x7, x9, x67, x68, x69 => if x69 < x68 then (if 0 ≤ x69 then (if x69 < (x67.length : Int) then (if ((rd_T40 x67 x69).f0) = 0 then (pantrylaw10_PlanTurns.l0 k x7 x9 x67 x68 (wrap64 (x69 + 1))) else (none)) else (none)) else (none)) else (pantrylaw10_PlanTurns.l1 k x7 x9 x7 (x7.length : Int) 0)
def pantrylaw10_PlanTurns.l1 : Nat → List (S40) → List (S40) → List (S40) → Int → Int → Option (Bool)
 | 0, _, _, _, _, _ => none
 | k + 1, x7, x9, x77, x78, x79 => if x79 < x78 then (if 0 ≤ x79 then (if x79 < (x77.length : Int) then ((some (([0, 1, 3, 2] : List Int) : List Int)).bind fun y328 => (if 0 ≤ ((rd_T40 x77 x79).f0) then (if ((rd_T40 x77 x79).f0) < (y328.length : Int) then (if x79 < (x9.length : Int) then (if ((rd_T40 x9 x79).f1).toList = ((rd_T40 x77 x79).f1).toList then (if ((rd_T40 x9 x79).f0) = (rd y328 ((rd_T40 x77 x79).f0)) then (if x79 > 0 then (if 0 ≤ (wrap64 (x79 - 1)) then (if (wrap64 (x79 - 1)) < (x7.length : Int) then (if ((Op.bytesLess (((rd_T40 x7 (wrap64 (x79 - 1))).f1).toList) (((rd_T40 x77 x79).f1).toList)) = true) then (pantrylaw10_PlanTurns.l1 k x7 x9 x77 x78 (wrap64 (x79 + 1))) else (none)) else (none)) else (none)) else (pantrylaw10_PlanTurns.l1 k x7 x9 x77 x78 (wrap64 (x79 + 1)))) else (none)) else (none)) else (none)) else (none)) else (none))) else (none)) else (none)) else (some true)
end
def pantrylaw10_PlanTurns.f (k : Nat) (l0_0 : List (S57)) (l1_0 : List (S57)) : Option (Bool) := (pantrylaw10_anchor.f k).bind fun t307 => (if t307 = true then ((pantrymade_SmallSites.f k l0_0).bind fun t308 => (if t308 = true then ((pantrymade_SmallSites.f k l1_0).bind fun t309 => (if t309 = true then ((conf_Config_Right.f k l0_0).bind fun t310 => (if t310 = true then ((conf_Config_Right.f k l1_0).bind fun t311 => (pantrylaw10_PlanTurns.j0 k (!t311) l0_0 l1_0)) else (pantrylaw10_PlanTurns.j0 k true l0_0 l1_0))) else (pantrylaw10_PlanTurns.j0 k true l0_0 l1_0))) else (pantrylaw10_PlanTurns.j0 k true l0_0 l1_0))) else (none))
theorem pantrylaw10_PlanTurns.mono_l : ∀ k, (∀ y0 y1 y2, LeO (pantrylaw10_PlanTurns.j0 k y0 y1 y2) (pantrylaw10_PlanTurns.j0 (k + 1) y0 y1 y2)) ∧ (∀ y0 y1 y2 y3, LeO (pantrylaw10_PlanTurns.j1 k y0 y1 y2 y3) (pantrylaw10_PlanTurns.j1 (k + 1) y0 y1 y2 y3)) ∧ (∀ y0 y1 y2 y3 y4, LeO (pantrylaw10_PlanTurns.l0 k y0 y1 y2 y3 y4) (pantrylaw10_PlanTurns.l0 (k + 1) y0 y1 y2 y3 y4)) ∧ (∀ y0 y1 y2 y3 y4, LeO (pantrylaw10_PlanTurns.l1 k y0 y1 y2 y3 y4) (pantrylaw10_PlanTurns.l1 (k + 1) y0 y1 y2 y3 y4))
 | 0 => ⟨fun _ _ _ r h => by simp [pantrylaw10_PlanTurns.j0] at h, fun _ _ _ _ r h => by simp [pantrylaw10_PlanTurns.j1] at h, fun _ _ _ _ _ r h => by simp [pantrylaw10_PlanTurns.l0] at h, fun _ _ _ _ _ r h => by simp [pantrylaw10_PlanTurns.l1] at h⟩
 | k + 1 => by
  obtain ⟨ih0, ih1, ih2, ih3⟩ := pantrylaw10_PlanTurns.mono_l k
  refine ⟨?_, ?_, ?_, ?_⟩
  ·
   intro y0 y1 y2
   unfold pantrylaw10_PlanTurns.j0
   repeat' (with_reducible first | exact ih0 _ _ _ | exact ih1 _ _ _ _ | exact ih2 _ _ _ _ _ | exact ih3 _ _ _ _ _ | exact conf_Config_Right.mono _ _ | exact pantrylaw10_anchor.mono _ | exact pantrymade_SmallSites.mono _ _ | exact plan_Diff.mono _ _ _ | exact lR_ | refine LeO.ite ?_ ?_ | refine LeO.bind ?_ (fun _ => ?_))
  ·
   intro y0 y1 y2 y3
   unfold pantrylaw10_PlanTurns.j1
   repeat' (with_reducible first | exact ih0 _ _ _ | exact ih1 _ _ _ _ | exact ih2 _ _ _ _ _ | exact ih3 _ _ _ _ _ | exact conf_Config_Right.mono _ _ | exact pantrylaw10_anchor.mono _ | exact pantrymade_SmallSites.mono _ _ | exact plan_Diff.mono _ _ _ | exact lR_ | refine LeO.ite ?_ ?_ | refine LeO.bind ?_ (fun _ => ?_))
  ·
   intro y0 y1 y2 y3 y4
   unfold pantrylaw10_PlanTurns.l0
   repeat' (with_reducible first | exact ih0 _ _ _ | exact ih1 _ _ _ _ | exact ih2 _ _ _ _ _ | exact ih3 _ _ _ _ _ | exact conf_Config_Right.mono _ _ | exact pantrylaw10_anchor.mono _ | exact pantrymade_SmallSites.mono _ _ | exact plan_Diff.mono _ _ _ | exact lR_ | refine LeO.ite ?_ ?_ | refine LeO.bind ?_ (fun _ => ?_))
  ·
   intro y0 y1 y2 y3 y4
   unfold pantrylaw10_PlanTurns.l1
   repeat' (with_reducible first | exact ih0 _ _ _ | exact ih1 _ _ _ _ | exact ih2 _ _ _ _ _ | exact ih3 _ _ _ _ _ | exact conf_Config_Right.mono _ _ | exact pantrylaw10_anchor.mono _ | exact pantrymade_SmallSites.mono _ _ | exact plan_Diff.mono _ _ _ | exact lR_ | refine LeO.ite ?_ ?_ | refine LeO.bind ?_ (fun _ => ?_))
theorem pantrylaw10_PlanTurns.mono : ∀ a0 a1 k, LeO (pantrylaw10_PlanTurns.f k a0 a1) (pantrylaw10_PlanTurns.f (k + 1) a0 a1) := by
 intro a0 a1 k
 obtain ⟨ih0, ih1, ih2, ih3⟩ := pantrylaw10_PlanTurns.mono_l k
 unfold pantrylaw10_PlanTurns.f
 repeat' (with_reducible first | exact ih0 _ _ _ | exact ih1 _ _ _ _ | exact ih2 _ _ _ _ _ | exact ih3 _ _ _ _ _ | exact conf_Config_Right.mono _ _ | exact pantrylaw10_anchor.mono _ | exact pantrymade_SmallSites.mono _ _ | exact plan_Diff.mono _ _ _ | exact lR_ | refine LeO.ite ?_ ?_ | refine LeO.bind ?_ (fun _ => ?_))
set_option maxHeartbeats 8000000 in
set_option maxRecDepth 100000 in
theorem pantrylaw10_PlanTurns.calls (k : Nat) (A0_0 : Option Addr) (c0_0 : Nat) (l0_0 : List (S57)) (A1_0 : Option Addr) (c1_0 : Nat) (l1_0 : List (S57)) (r : Bool) (w : World) (hr0_0 : Kd.C k57 w A0_0 l0_0.length l0_0) (hc0_0 : l0_0.length ≤ c0_0) (hr1_0 : Kd.C k57 w A1_0 l1_0.length l1_0) (hc1_0 : l1_0.length ≤ c1_0) (hrW : WF w) (h : pantrylaw10_PlanTurns.f k l0_0 l1_0 = some r) :
  Calls Tryz.prog 4 #[.agg #[.slice A0_0 l0_0.length c0_0], .agg #[.slice A1_0 l1_0.length c1_0]] w fun e w' => e = .returned (.bool r) ∧ Below w.heap.size w w' := by
 have hu24 := Tryz.underlying24
 have hu40 := Tryz.underlying40
 have HRW := Aside0.mk hrW
 clear hrW
 have HR0_0 := Aside0.mk hr0_0
 have HC0_0 := Aside0.mk hc0_0
 clear hr0_0 hc0_0
 have HR1_0 := Aside0.mk hr1_0
 have HC1_0 := Aside0.mk hc1_0
 clear hr1_0 hc1_0
 have HB := Aside0.mk (Below.refl w.heap.size w)
 have H : ((pantrylaw10_anchor.f k).bind fun t307 => (if t307 = true then ((pantrymade_SmallSites.f k l0_0).bind fun t308 => (if t308 = true then ((pantrymade_SmallSites.f k l1_0).bind fun t309 => (if t309 = true then ((conf_Config_Right.f k l0_0).bind fun t310 => (if t310 = true then ((conf_Config_Right.f k l1_0).bind fun t311 => (pantrylaw10_PlanTurns.j0 k (!t311) l0_0 l1_0)) else (pantrylaw10_PlanTurns.j0 k true l0_0 l1_0))) else (pantrylaw10_PlanTurns.j0 k true l0_0 l1_0))) else (pantrylaw10_PlanTurns.j0 k true l0_0 l1_0))) else (none))) = some r := h
 clear h
 obtain ⟨t307, A3, H⟩ := bS_ H
 try dsimp only at H
 by_cases c4 : t307 = true
 ·
  subst c4
  rw [if_pos rfl] at H
  have HC5 := Aside0.mk H
  clear H
  go_enter Tryz.func4, Tryz.ntmps4
  go_upto_region 3 with (first | ((with_reducible refine gate_dst (N := 2) rfl ?_); (try (refine gate_guard (by rfl) ?_; dsimp only)); refine box_event ?hg (N := 2) ?hd (cs := #[.slice A0_0 l0_0.length c0_0]) (t := 24) ?hr ?_; (case hd | hg => rfl); (case hr => exact S1_); intro gb305 hg w6 hbox hb; have BK305 := Aside0.mk (hbox); have GW305 := Aside0.mk ((Z1_ : w.heap.size ≤ gb305)); have GE305 := Aside0.mk ((Z1_ : w.heap.size ≤ gb305)); replace HB := y1_ hb; clear hb hbox hg) | ((with_reducible refine gate_dst (N := 3) rfl ?_); (try (refine gate_guard (by rfl) ?_; dsimp only)); refine box_event ?hg (N := 3) ?hd (cs := #[.slice A1_0 l1_0.length c1_0]) (t := 24) ?hr ?_; (case hd | hg => rfl); (case hr => exact S1_); intro gb306 hg w7 hbox hb; have BK306 := Aside0.mk (hbox); have GW306 := Aside0.mk ((Z2_ : w.heap.size ≤ gb306)); have GE306 := Aside0.mk ((Z2_ : w.heap.size ≤ gb306)); have NB305_306 := Aside0.mk ((by rw [hg]; exact Nat.ne_of_lt (blk_lt (B1_ BK305.out)) : gb305 ≠ gb306)); have NB306_305 := Aside0.mk ((by rw [hg]; exact Nat.ne_of_gt (blk_lt (B1_ BK305.out)) : gb306 ≠ gb305)); replace BK305 := yB_ BK305 hb; replace HB := y2_ hb; clear hb hbox hg) | (go_at_call 8; (with_reducible refine (pantrylaw10_anchor.calls k  true _ ?side1 A3.out).mono ?_); (case side1 => exact C1_ ((WF.below HRW.out HB.out))); rintro e w8 ⟨rfl, hb⟩; replace BK305 := yB_ BK305 hb; replace BK306 := yB_ BK306 hb; replace HB := y2_ hb; (try clear hb)))
  repeat (go_quiet (first | ((with_reducible refine gate_dst (N := 2) rfl ?_); (try (refine gate_guard (by rfl) ?_; dsimp only)); refine box_event ?hg (N := 2) ?hd (cs := #[.slice A0_0 l0_0.length c0_0]) (t := 24) ?hr ?_; (case hd | hg => rfl); (case hr => exact S1_); intro gb305 hg w6 hbox hb; have BK305 := Aside0.mk (hbox); have GW305 := Aside0.mk ((Z1_ : w.heap.size ≤ gb305)); have GE305 := Aside0.mk ((Z1_ : w.heap.size ≤ gb305)); replace HB := y1_ hb; clear hb hbox hg) | ((with_reducible refine gate_dst (N := 3) rfl ?_); (try (refine gate_guard (by rfl) ?_; dsimp only)); refine box_event ?hg (N := 3) ?hd (cs := #[.slice A1_0 l1_0.length c1_0]) (t := 24) ?hr ?_; (case hd | hg => rfl); (case hr => exact S1_); intro gb306 hg w7 hbox hb; have BK306 := Aside0.mk (hbox); have GW306 := Aside0.mk ((Z2_ : w.heap.size ≤ gb306)); have GE306 := Aside0.mk ((Z2_ : w.heap.size ≤ gb306)); have NB305_306 := Aside0.mk ((by rw [hg]; exact Nat.ne_of_lt (blk_lt (B1_ BK305.out)) : gb305 ≠ gb306)); have NB306_305 := Aside0.mk ((by rw [hg]; exact Nat.ne_of_gt (blk_lt (B1_ BK305.out)) : gb306 ≠ gb305)); replace BK305 := yB_ BK305 hb; replace HB := y2_ hb; clear hb hbox hg) | (go_at_call 8; (with_reducible refine (pantrylaw10_anchor.calls k  true _ ?side1 A3.out).mono ?_); (case side1 => exact C1_ ((WF.below HRW.out HB.out))); rintro e w8 ⟨rfl, hb⟩; replace BK305 := yB_ BK305 hb; replace BK306 := yB_ BK306 hb; replace HB := y2_ hb; (try clear hb))); go_upto_region 3 with (first | ((with_reducible refine gate_dst (N := 2) rfl ?_); (try (refine gate_guard (by rfl) ?_; dsimp only)); refine box_event ?hg (N := 2) ?hd (cs := #[.slice A0_0 l0_0.length c0_0]) (t := 24) ?hr ?_; (case hd | hg => rfl); (case hr => exact S1_); intro gb305 hg w6 hbox hb; have BK305 := Aside0.mk (hbox); have GW305 := Aside0.mk ((Z1_ : w.heap.size ≤ gb305)); have GE305 := Aside0.mk ((Z1_ : w.heap.size ≤ gb305)); replace HB := y1_ hb; clear hb hbox hg) | ((with_reducible refine gate_dst (N := 3) rfl ?_); (try (refine gate_guard (by rfl) ?_; dsimp only)); refine box_event ?hg (N := 3) ?hd (cs := #[.slice A1_0 l1_0.length c1_0]) (t := 24) ?hr ?_; (case hd | hg => rfl); (case hr => exact S1_); intro gb306 hg w7 hbox hb; have BK306 := Aside0.mk (hbox); have GW306 := Aside0.mk ((Z2_ : w.heap.size ≤ gb306)); have GE306 := Aside0.mk ((Z2_ : w.heap.size ≤ gb306)); have NB305_306 := Aside0.mk ((by rw [hg]; exact Nat.ne_of_lt (blk_lt (B1_ BK305.out)) : gb305 ≠ gb306)); have NB306_305 := Aside0.mk ((by rw [hg]; exact Nat.ne_of_gt (blk_lt (B1_ BK305.out)) : gb306 ≠ gb305)); replace BK305 := yB_ BK305 hb; replace HB := y2_ hb; clear hb hbox hg) | (go_at_call 8; (with_reducible refine (pantrylaw10_anchor.calls k  true _ ?side1 A3.out).mono ?_); (case side1 => exact C1_ ((WF.below HRW.out HB.out))); rintro e w8 ⟨rfl, hb⟩; replace BK305 := yB_ BK305 hb; replace BK306 := yB_ BK306 hb; replace HB := y2_ hb; (try clear hb))))
  (try simp only [Act.put, sA_, sZ_, sS_])
  go_cut [35] (fun v35 wc => ∃ (kq : Nat) (x35_4 : Bool), v35 = .bool x35_4 ∧ Aside0 (pantrylaw10_PlanTurns.j0 kq x35_4 l0_0 l1_0 = some r) ∧ Aside0 (kq ≤ k) ∧ Aside0 (wc.heap[gb305]? = some (.cells #[(.slice A0_0 l0_0.length c0_0)] 24 (0, 0))) ∧ Aside0 (wc.heap[gb306]? = some (.cells #[(.slice A1_0 l1_0.length c1_0)] 24 (0, 0))) ∧ Aside0 (Below w.heap.size w wc))
  case first =>
   have H := HC5.out
   clear HC5
   obtain ⟨t308, A9, H⟩ := bS_ H
   try dsimp only at H
   by_cases c10 : t308 = true
   ·
    subst c10
    rw [if_pos rfl] at H
    obtain ⟨t309, A11, H⟩ := bS_ H
    try dsimp only at H
    by_cases c12 : t309 = true
    ·
     subst c12
     rw [if_pos rfl] at H
     obtain ⟨t310, A13, H⟩ := bS_ H
     try dsimp only at H
     by_cases c14 : t310 = true
     ·
      subst c14
      rw [if_pos rfl] at H
      obtain ⟨t311, A15, H⟩ := bS_ H
      try dsimp only at H
      have H' := Aside0.mk H
      clear H
      have hnb16 := NB305_306.out
      have hnc16 := NB306_305.out
      obtain ⟨z17_0, y17_0⟩ := cz1_ BK305.out
      go_wp2_with (first | (go_at_call 9; (with_reducible refine (pantrymade_SmallSites.calls k _ _ l0_0 true _ ?side1 ?side2 A9.out).mono ?_); (case side1 => exact C1_ ((Kd.C_below HR0_0.out HB.out))); (case side2 => exact HC0_0.out); rintro e w18 ⟨rfl, hb⟩; replace BK305 := yB_ BK305 hb; replace BK306 := yB_ BK306 hb; replace HB := y2_ hb; (try clear hb); obtain ⟨z19_0, y19_0⟩ := cz1_ BK306.out) | (go_at_call 9; (with_reducible refine (pantrymade_SmallSites.calls k _ _ l1_0 true _ ?side1 ?side2 A11.out).mono ?_); (case side1 => exact C1_ ((Kd.C_below HR1_0.out HB.out))); (case side2 => exact HC1_0.out); rintro e w20 ⟨rfl, hb⟩; replace BK305 := yB_ BK305 hb; replace BK306 := yB_ BK306 hb; replace HB := y2_ hb; (try clear hb); obtain ⟨z21_0, y21_0⟩ := cz1_ BK305.out) | (go_at_call 15; (with_reducible refine (conf_Config_Right.calls k _ _ l0_0 true _ ?side1 ?side2 A13.out).mono ?_); (case side1 => exact C1_ ((Kd.C_below HR0_0.out HB.out))); (case side2 => exact HC0_0.out); rintro e w22 ⟨rfl, hb⟩; replace BK305 := yB_ BK305 hb; replace BK306 := yB_ BK306 hb; replace HB := y2_ hb; (try clear hb); obtain ⟨z23_0, y23_0⟩ := cz1_ BK306.out) | (go_at_call 15; (with_reducible refine (conf_Config_Right.calls k _ _ l1_0 t311 _ ?side1 ?side2 A15.out).mono ?_); (case side1 => exact C1_ ((Kd.C_below HR1_0.out HB.out))); (case side2 => exact HC1_0.out); rintro e w24 ⟨rfl, hb⟩; replace BK305 := yB_ BK305 hb; replace BK306 := yB_ BK306 hb; replace HB := y2_ hb; (try clear hb)))
      repeat (go_quiet (first | (go_at_call 9; (with_reducible refine (pantrymade_SmallSites.calls k _ _ l0_0 true _ ?side1 ?side2 A9.out).mono ?_); (case side1 => exact C1_ ((Kd.C_below HR0_0.out HB.out))); (case side2 => exact HC0_0.out); rintro e w18 ⟨rfl, hb⟩; replace BK305 := yB_ BK305 hb; replace BK306 := yB_ BK306 hb; replace HB := y2_ hb; (try clear hb); obtain ⟨z19_0, y19_0⟩ := cz1_ BK306.out) | (go_at_call 9; (with_reducible refine (pantrymade_SmallSites.calls k _ _ l1_0 true _ ?side1 ?side2 A11.out).mono ?_); (case side1 => exact C1_ ((Kd.C_below HR1_0.out HB.out))); (case side2 => exact HC1_0.out); rintro e w20 ⟨rfl, hb⟩; replace BK305 := yB_ BK305 hb; replace BK306 := yB_ BK306 hb; replace HB := y2_ hb; (try clear hb); obtain ⟨z21_0, y21_0⟩ := cz1_ BK305.out) | (go_at_call 15; (with_reducible refine (conf_Config_Right.calls k _ _ l0_0 true _ ?side1 ?side2 A13.out).mono ?_); (case side1 => exact C1_ ((Kd.C_below HR0_0.out HB.out))); (case side2 => exact HC0_0.out); rintro e w22 ⟨rfl, hb⟩; replace BK305 := yB_ BK305 hb; replace BK306 := yB_ BK306 hb; replace HB := y2_ hb; (try clear hb); obtain ⟨z23_0, y23_0⟩ := cz1_ BK306.out) | (go_at_call 15; (with_reducible refine (conf_Config_Right.calls k _ _ l1_0 t311 _ ?side1 ?side2 A15.out).mono ?_); (case side1 => exact C1_ ((Kd.C_below HR1_0.out HB.out))); (case side2 => exact HC1_0.out); rintro e w24 ⟨rfl, hb⟩; replace BK305 := yB_ BK305 hb; replace BK306 := yB_ BK306 hb; replace HB := y2_ hb; (try clear hb))); try go_wp2_with (first | (go_at_call 9; (with_reducible refine (pantrymade_SmallSites.calls k _ _ l0_0 true _ ?side1 ?side2 A9.out).mono ?_); (case side1 => exact C1_ ((Kd.C_below HR0_0.out HB.out))); (case side2 => exact HC0_0.out); rintro e w18 ⟨rfl, hb⟩; replace BK305 := yB_ BK305 hb; replace BK306 := yB_ BK306 hb; replace HB := y2_ hb; (try clear hb); obtain ⟨z19_0, y19_0⟩ := cz1_ BK306.out) | (go_at_call 9; (with_reducible refine (pantrymade_SmallSites.calls k _ _ l1_0 true _ ?side1 ?side2 A11.out).mono ?_); (case side1 => exact C1_ ((Kd.C_below HR1_0.out HB.out))); (case side2 => exact HC1_0.out); rintro e w20 ⟨rfl, hb⟩; replace BK305 := yB_ BK305 hb; replace BK306 := yB_ BK306 hb; replace HB := y2_ hb; (try clear hb); obtain ⟨z21_0, y21_0⟩ := cz1_ BK305.out) | (go_at_call 15; (with_reducible refine (conf_Config_Right.calls k _ _ l0_0 true _ ?side1 ?side2 A13.out).mono ?_); (case side1 => exact C1_ ((Kd.C_below HR0_0.out HB.out))); (case side2 => exact HC0_0.out); rintro e w22 ⟨rfl, hb⟩; replace BK305 := yB_ BK305 hb; replace BK306 := yB_ BK306 hb; replace HB := y2_ hb; (try clear hb); obtain ⟨z23_0, y23_0⟩ := cz1_ BK306.out) | (go_at_call 15; (with_reducible refine (conf_Config_Right.calls k _ _ l1_0 t311 _ ?side1 ?side2 A15.out).mono ?_); (case side1 => exact C1_ ((Kd.C_below HR1_0.out HB.out))); (case side2 => exact HC1_0.out); rintro e w24 ⟨rfl, hb⟩; replace BK305 := yB_ BK305 hb; replace BK306 := yB_ BK306 hb; replace HB := y2_ hb; (try clear hb))))
      go_meet
      case rel => exact ⟨_, (!t311), E3_, H', ⟨by first | omega | exact Nat.le_refl _⟩, ⟨B1_ BK305.out⟩, ⟨B1_ BK306.out⟩, ⟨W2_⟩⟩
     ·
      replace c14 := Bool.eq_false_iff.mpr c14
      subst c14
      rw [if_neg (show ¬ (false = true) by decide)] at H
      have H' := Aside0.mk H
      clear H
      have hnb25 := NB305_306.out
      have hnc25 := NB306_305.out
      obtain ⟨z26_0, y26_0⟩ := cz1_ BK305.out
      go_wp2_with (first | (go_at_call 9; (with_reducible refine (pantrymade_SmallSites.calls k _ _ l0_0 true _ ?side1 ?side2 A9.out).mono ?_); (case side1 => exact C1_ ((Kd.C_below HR0_0.out HB.out))); (case side2 => exact HC0_0.out); rintro e w27 ⟨rfl, hb⟩; replace BK305 := yB_ BK305 hb; replace BK306 := yB_ BK306 hb; replace HB := y2_ hb; (try clear hb); obtain ⟨z28_0, y28_0⟩ := cz1_ BK306.out) | (go_at_call 9; (with_reducible refine (pantrymade_SmallSites.calls k _ _ l1_0 true _ ?side1 ?side2 A11.out).mono ?_); (case side1 => exact C1_ ((Kd.C_below HR1_0.out HB.out))); (case side2 => exact HC1_0.out); rintro e w29 ⟨rfl, hb⟩; replace BK305 := yB_ BK305 hb; replace BK306 := yB_ BK306 hb; replace HB := y2_ hb; (try clear hb); obtain ⟨z30_0, y30_0⟩ := cz1_ BK305.out) | (go_at_call 15; (with_reducible refine (conf_Config_Right.calls k _ _ l0_0 false _ ?side1 ?side2 A13.out).mono ?_); (case side1 => exact C1_ ((Kd.C_below HR0_0.out HB.out))); (case side2 => exact HC0_0.out); rintro e w31 ⟨rfl, hb⟩; replace BK305 := yB_ BK305 hb; replace BK306 := yB_ BK306 hb; replace HB := y2_ hb; (try clear hb)))
      repeat (go_quiet (first | (go_at_call 9; (with_reducible refine (pantrymade_SmallSites.calls k _ _ l0_0 true _ ?side1 ?side2 A9.out).mono ?_); (case side1 => exact C1_ ((Kd.C_below HR0_0.out HB.out))); (case side2 => exact HC0_0.out); rintro e w27 ⟨rfl, hb⟩; replace BK305 := yB_ BK305 hb; replace BK306 := yB_ BK306 hb; replace HB := y2_ hb; (try clear hb); obtain ⟨z28_0, y28_0⟩ := cz1_ BK306.out) | (go_at_call 9; (with_reducible refine (pantrymade_SmallSites.calls k _ _ l1_0 true _ ?side1 ?side2 A11.out).mono ?_); (case side1 => exact C1_ ((Kd.C_below HR1_0.out HB.out))); (case side2 => exact HC1_0.out); rintro e w29 ⟨rfl, hb⟩; replace BK305 := yB_ BK305 hb; replace BK306 := yB_ BK306 hb; replace HB := y2_ hb; (try clear hb); obtain ⟨z30_0, y30_0⟩ := cz1_ BK305.out) | (go_at_call 15; (with_reducible refine (conf_Config_Right.calls k _ _ l0_0 false _ ?side1 ?side2 A13.out).mono ?_); (case side1 => exact C1_ ((Kd.C_below HR0_0.out HB.out))); (case side2 => exact HC0_0.out); rintro e w31 ⟨rfl, hb⟩; replace BK305 := yB_ BK305 hb; replace BK306 := yB_ BK306 hb; replace HB := y2_ hb; (try clear hb))); try go_wp2_with (first | (go_at_call 9; (with_reducible refine (pantrymade_SmallSites.calls k _ _ l0_0 true _ ?side1 ?side2 A9.out).mono ?_); (case side1 => exact C1_ ((Kd.C_below HR0_0.out HB.out))); (case side2 => exact HC0_0.out); rintro e w27 ⟨rfl, hb⟩; replace BK305 := yB_ BK305 hb; replace BK306 := yB_ BK306 hb; replace HB := y2_ hb; (try clear hb); obtain ⟨z28_0, y28_0⟩ := cz1_ BK306.out) | (go_at_call 9; (with_reducible refine (pantrymade_SmallSites.calls k _ _ l1_0 true _ ?side1 ?side2 A11.out).mono ?_); (case side1 => exact C1_ ((Kd.C_below HR1_0.out HB.out))); (case side2 => exact HC1_0.out); rintro e w29 ⟨rfl, hb⟩; replace BK305 := yB_ BK305 hb; replace BK306 := yB_ BK306 hb; replace HB := y2_ hb; (try clear hb); obtain ⟨z30_0, y30_0⟩ := cz1_ BK305.out) | (go_at_call 15; (with_reducible refine (conf_Config_Right.calls k _ _ l0_0 false _ ?side1 ?side2 A13.out).mono ?_); (case side1 => exact C1_ ((Kd.C_below HR0_0.out HB.out))); (case side2 => exact HC0_0.out); rintro e w31 ⟨rfl, hb⟩; replace BK305 := yB_ BK305 hb; replace BK306 := yB_ BK306 hb; replace HB := y2_ hb; (try clear hb))))
      go_meet
      case rel => exact ⟨_, (true), E3_, H', ⟨by first | omega | exact Nat.le_refl _⟩, ⟨B1_ BK305.out⟩, ⟨B1_ BK306.out⟩, ⟨W2_⟩⟩
    ·
     replace c12 := Bool.eq_false_iff.mpr c12
     subst c12
     rw [if_neg (show ¬ (false = true) by decide)] at H
     have H' := Aside0.mk H
     clear H
     have hnb32 := NB305_306.out
     have hnc32 := NB306_305.out
     obtain ⟨z33_0, y33_0⟩ := cz1_ BK305.out
     go_wp2_with (first | (go_at_call 9; (with_reducible refine (pantrymade_SmallSites.calls k _ _ l0_0 true _ ?side1 ?side2 A9.out).mono ?_); (case side1 => exact C1_ ((Kd.C_below HR0_0.out HB.out))); (case side2 => exact HC0_0.out); rintro e w34 ⟨rfl, hb⟩; replace BK305 := yB_ BK305 hb; replace BK306 := yB_ BK306 hb; replace HB := y2_ hb; (try clear hb); obtain ⟨z35_0, y35_0⟩ := cz1_ BK306.out) | (go_at_call 9; (with_reducible refine (pantrymade_SmallSites.calls k _ _ l1_0 false _ ?side1 ?side2 A11.out).mono ?_); (case side1 => exact C1_ ((Kd.C_below HR1_0.out HB.out))); (case side2 => exact HC1_0.out); rintro e w36 ⟨rfl, hb⟩; replace BK305 := yB_ BK305 hb; replace BK306 := yB_ BK306 hb; replace HB := y2_ hb; (try clear hb)))
     repeat (go_quiet (first | (go_at_call 9; (with_reducible refine (pantrymade_SmallSites.calls k _ _ l0_0 true _ ?side1 ?side2 A9.out).mono ?_); (case side1 => exact C1_ ((Kd.C_below HR0_0.out HB.out))); (case side2 => exact HC0_0.out); rintro e w34 ⟨rfl, hb⟩; replace BK305 := yB_ BK305 hb; replace BK306 := yB_ BK306 hb; replace HB := y2_ hb; (try clear hb); obtain ⟨z35_0, y35_0⟩ := cz1_ BK306.out) | (go_at_call 9; (with_reducible refine (pantrymade_SmallSites.calls k _ _ l1_0 false _ ?side1 ?side2 A11.out).mono ?_); (case side1 => exact C1_ ((Kd.C_below HR1_0.out HB.out))); (case side2 => exact HC1_0.out); rintro e w36 ⟨rfl, hb⟩; replace BK305 := yB_ BK305 hb; replace BK306 := yB_ BK306 hb; replace HB := y2_ hb; (try clear hb))); try go_wp2_with (first | (go_at_call 9; (with_reducible refine (pantrymade_SmallSites.calls k _ _ l0_0 true _ ?side1 ?side2 A9.out).mono ?_); (case side1 => exact C1_ ((Kd.C_below HR0_0.out HB.out))); (case side2 => exact HC0_0.out); rintro e w34 ⟨rfl, hb⟩; replace BK305 := yB_ BK305 hb; replace BK306 := yB_ BK306 hb; replace HB := y2_ hb; (try clear hb); obtain ⟨z35_0, y35_0⟩ := cz1_ BK306.out) | (go_at_call 9; (with_reducible refine (pantrymade_SmallSites.calls k _ _ l1_0 false _ ?side1 ?side2 A11.out).mono ?_); (case side1 => exact C1_ ((Kd.C_below HR1_0.out HB.out))); (case side2 => exact HC1_0.out); rintro e w36 ⟨rfl, hb⟩; replace BK305 := yB_ BK305 hb; replace BK306 := yB_ BK306 hb; replace HB := y2_ hb; (try clear hb))))
     go_meet
     case rel => exact ⟨_, (true), E3_, H', ⟨by first | omega | exact Nat.le_refl _⟩, ⟨B1_ BK305.out⟩, ⟨B1_ BK306.out⟩, ⟨W2_⟩⟩
   ·
    replace c10 := Bool.eq_false_iff.mpr c10
    subst c10
    rw [if_neg (show ¬ (false = true) by decide)] at H
    have H' := Aside0.mk H
    clear H
    have hnb37 := NB305_306.out
    have hnc37 := NB306_305.out
    obtain ⟨z38_0, y38_0⟩ := cz1_ BK305.out
    go_wp2_with (first | (go_at_call 9; (with_reducible refine (pantrymade_SmallSites.calls k _ _ l0_0 false _ ?side1 ?side2 A9.out).mono ?_); (case side1 => exact C1_ ((Kd.C_below HR0_0.out HB.out))); (case side2 => exact HC0_0.out); rintro e w39 ⟨rfl, hb⟩; replace BK305 := yB_ BK305 hb; replace BK306 := yB_ BK306 hb; replace HB := y2_ hb; (try clear hb)))
    repeat (go_quiet (first | (go_at_call 9; (with_reducible refine (pantrymade_SmallSites.calls k _ _ l0_0 false _ ?side1 ?side2 A9.out).mono ?_); (case side1 => exact C1_ ((Kd.C_below HR0_0.out HB.out))); (case side2 => exact HC0_0.out); rintro e w39 ⟨rfl, hb⟩; replace BK305 := yB_ BK305 hb; replace BK306 := yB_ BK306 hb; replace HB := y2_ hb; (try clear hb))); try go_wp2_with (first | (go_at_call 9; (with_reducible refine (pantrymade_SmallSites.calls k _ _ l0_0 false _ ?side1 ?side2 A9.out).mono ?_); (case side1 => exact C1_ ((Kd.C_below HR0_0.out HB.out))); (case side2 => exact HC0_0.out); rintro e w39 ⟨rfl, hb⟩; replace BK305 := yB_ BK305 hb; replace BK306 := yB_ BK306 hb; replace HB := y2_ hb; (try clear hb))))
    go_meet
    case rel => exact ⟨_, (true), E3_, H', ⟨by first | omega | exact Nat.le_refl _⟩, ⟨B1_ BK305.out⟩, ⟨B1_ BK306.out⟩, ⟨W2_⟩⟩
  case rest =>
   clear HC5
   (try clear c4); (try clear c10); (try clear c12); (try clear c14); (try clear z17_0 y17_0); (try clear z19_0 y19_0); (try clear z21_0 y21_0); (try clear z23_0 y23_0); (try clear z26_0 y26_0); (try clear z28_0 y28_0); (try clear z30_0 y30_0); (try clear z33_0 y33_0); (try clear z35_0 y35_0); (try clear z38_0 y38_0)
   obtain ⟨kq, x35_4, rfl, HA, HJ4, BK305, BK306, HB⟩ := hcut
   cases kq with
   | zero => exact absurd HA.out (by simp [pantrylaw10_PlanTurns.j0])
   | succ kj4 =>
    have H := HA.out
    clear HA
    simp only [pantrylaw10_PlanTurns.j0] at H
    by_cases c40 : x35_4 = true
    ·
     subst c40
     rw [if_pos rfl] at H
     obtain rfl := Option.some.inj H
     go_wp2
     repeat (go_quiet (fail); try go_wp2)
     go_ret
     exact ⟨E1_, W2_⟩
    ·
     replace c40 := Bool.eq_false_iff.mpr c40
     subst c40
     rw [if_neg (show ¬ (false = true) by decide)] at H
     obtain ⟨⟨t312, t315⟩, A41, H⟩ := bS_ H
     try dsimp only at H
     obtain ⟨⟨t316, t319⟩, A42, H⟩ := bS_ H
     try dsimp only at H
     obtain ⟨⟨t320, t323⟩, A43, H⟩ := bS_ H
     try dsimp only at H
     have HC44 := Aside0.mk H
     clear H
     have hnb45 := NB305_306.out
     have hnc45 := NB306_305.out
     obtain ⟨z46_0, y46_0⟩ := cz1_ BK305.out
     go_upto_region 8 with (first | (go_at_call 10; (with_reducible refine (plan_Diff.calls kj4 _ _ l0_0 _ _ l0_0 t312 t315 _ ?side1 ?side2 ?side3 ?side4 A41.out).mono ?_); (case side1 => exact C1_ ((Kd.C_below HR0_0.out HB.out))); (case side2 => exact HC0_0.out); (case side3 => exact C1_ ((Kd.C_below HR0_0.out HB.out))); (case side4 => exact HC0_0.out); rintro e w47 ⟨v313, rfl, ho0, hb⟩; have HO314 := Aside0.mk (Kd.R_lower ho0 (below_size W2_)); replace BK305 := yB_ BK305 hb; replace BK306 := yB_ BK306 hb; replace HB := y2_ hb; (try clear hb); (try clear ho0); obtain ⟨z48_0, y48_0⟩ := cz1_ BK305.out; obtain ⟨z49_0, y49_0⟩ := cz1_ BK306.out) | (go_at_call 10; (with_reducible refine (plan_Diff.calls kj4 _ _ l0_0 _ _ l1_0 t316 t319 _ ?side1 ?side2 ?side3 ?side4 A42.out).mono ?_); (case side1 => exact C1_ ((Kd.C_below HR0_0.out HB.out))); (case side2 => exact HC0_0.out); (case side3 => exact C1_ ((Kd.C_below HR1_0.out HB.out))); (case side4 => exact HC1_0.out); rintro e w50 ⟨v317, rfl, ho0, hb⟩; have HO318 := Aside0.mk (Kd.R_lower (Kd.R_new' ho0 (Kd.R_lt (R1_ HO314.out))) (below_size W2_)); replace HO314 := Aside0.mk (Kd.R_elder' (R1_ HO314.out) (Kd.R_base ho0) hb); replace BK305 := yB_ BK305 hb; replace BK306 := yB_ BK306 hb; replace HB := y2_ hb; (try clear hb); (try clear ho0); obtain ⟨z51_0, y51_0⟩ := cz1_ BK306.out; obtain ⟨z52_0, y52_0⟩ := cz1_ BK305.out) | (go_at_call 10; (with_reducible refine (plan_Diff.calls kj4 _ _ l1_0 _ _ l0_0 t320 t323 _ ?side1 ?side2 ?side3 ?side4 A43.out).mono ?_); (case side1 => exact C1_ ((Kd.C_below HR1_0.out HB.out))); (case side2 => exact HC1_0.out); (case side3 => exact C1_ ((Kd.C_below HR0_0.out HB.out))); (case side4 => exact HC0_0.out); rintro e w53 ⟨v321, rfl, ho0, hb⟩; have HO322 := Aside0.mk (Kd.R_lower (Kd.R_new' (Kd.R_new' ho0 (Kd.R_lt (R1_ HO314.out))) (Kd.R_lt (R1_ HO318.out))) (below_size W2_)); replace HO314 := Aside0.mk (Kd.R_elder' (R1_ HO314.out) (Kd.R_base ho0) hb); replace HO318 := Aside0.mk (Kd.R_elder' (R1_ HO318.out) (Kd.R_base ho0) hb); replace BK305 := yB_ BK305 hb; replace BK306 := yB_ BK306 hb; replace HB := y2_ hb; (try clear hb); (try clear ho0)))
     repeat (go_quiet (first | (go_at_call 10; (with_reducible refine (plan_Diff.calls kj4 _ _ l0_0 _ _ l0_0 t312 t315 _ ?side1 ?side2 ?side3 ?side4 A41.out).mono ?_); (case side1 => exact C1_ ((Kd.C_below HR0_0.out HB.out))); (case side2 => exact HC0_0.out); (case side3 => exact C1_ ((Kd.C_below HR0_0.out HB.out))); (case side4 => exact HC0_0.out); rintro e w47 ⟨v313, rfl, ho0, hb⟩; have HO314 := Aside0.mk (Kd.R_lower ho0 (below_size W2_)); replace BK305 := yB_ BK305 hb; replace BK306 := yB_ BK306 hb; replace HB := y2_ hb; (try clear hb); (try clear ho0); obtain ⟨z48_0, y48_0⟩ := cz1_ BK305.out; obtain ⟨z49_0, y49_0⟩ := cz1_ BK306.out) | (go_at_call 10; (with_reducible refine (plan_Diff.calls kj4 _ _ l0_0 _ _ l1_0 t316 t319 _ ?side1 ?side2 ?side3 ?side4 A42.out).mono ?_); (case side1 => exact C1_ ((Kd.C_below HR0_0.out HB.out))); (case side2 => exact HC0_0.out); (case side3 => exact C1_ ((Kd.C_below HR1_0.out HB.out))); (case side4 => exact HC1_0.out); rintro e w50 ⟨v317, rfl, ho0, hb⟩; have HO318 := Aside0.mk (Kd.R_lower (Kd.R_new' ho0 (Kd.R_lt (R1_ HO314.out))) (below_size W2_)); replace HO314 := Aside0.mk (Kd.R_elder' (R1_ HO314.out) (Kd.R_base ho0) hb); replace BK305 := yB_ BK305 hb; replace BK306 := yB_ BK306 hb; replace HB := y2_ hb; (try clear hb); (try clear ho0); obtain ⟨z51_0, y51_0⟩ := cz1_ BK306.out; obtain ⟨z52_0, y52_0⟩ := cz1_ BK305.out) | (go_at_call 10; (with_reducible refine (plan_Diff.calls kj4 _ _ l1_0 _ _ l0_0 t320 t323 _ ?side1 ?side2 ?side3 ?side4 A43.out).mono ?_); (case side1 => exact C1_ ((Kd.C_below HR1_0.out HB.out))); (case side2 => exact HC1_0.out); (case side3 => exact C1_ ((Kd.C_below HR0_0.out HB.out))); (case side4 => exact HC0_0.out); rintro e w53 ⟨v321, rfl, ho0, hb⟩; have HO322 := Aside0.mk (Kd.R_lower (Kd.R_new' (Kd.R_new' ho0 (Kd.R_lt (R1_ HO314.out))) (Kd.R_lt (R1_ HO318.out))) (below_size W2_)); replace HO314 := Aside0.mk (Kd.R_elder' (R1_ HO314.out) (Kd.R_base ho0) hb); replace HO318 := Aside0.mk (Kd.R_elder' (R1_ HO318.out) (Kd.R_base ho0) hb); replace BK305 := yB_ BK305 hb; replace BK306 := yB_ BK306 hb; replace HB := y2_ hb; (try clear hb); (try clear ho0))); go_upto_region 8 with (first | (go_at_call 10; (with_reducible refine (plan_Diff.calls kj4 _ _ l0_0 _ _ l0_0 t312 t315 _ ?side1 ?side2 ?side3 ?side4 A41.out).mono ?_); (case side1 => exact C1_ ((Kd.C_below HR0_0.out HB.out))); (case side2 => exact HC0_0.out); (case side3 => exact C1_ ((Kd.C_below HR0_0.out HB.out))); (case side4 => exact HC0_0.out); rintro e w47 ⟨v313, rfl, ho0, hb⟩; have HO314 := Aside0.mk (Kd.R_lower ho0 (below_size W2_)); replace BK305 := yB_ BK305 hb; replace BK306 := yB_ BK306 hb; replace HB := y2_ hb; (try clear hb); (try clear ho0); obtain ⟨z48_0, y48_0⟩ := cz1_ BK305.out; obtain ⟨z49_0, y49_0⟩ := cz1_ BK306.out) | (go_at_call 10; (with_reducible refine (plan_Diff.calls kj4 _ _ l0_0 _ _ l1_0 t316 t319 _ ?side1 ?side2 ?side3 ?side4 A42.out).mono ?_); (case side1 => exact C1_ ((Kd.C_below HR0_0.out HB.out))); (case side2 => exact HC0_0.out); (case side3 => exact C1_ ((Kd.C_below HR1_0.out HB.out))); (case side4 => exact HC1_0.out); rintro e w50 ⟨v317, rfl, ho0, hb⟩; have HO318 := Aside0.mk (Kd.R_lower (Kd.R_new' ho0 (Kd.R_lt (R1_ HO314.out))) (below_size W2_)); replace HO314 := Aside0.mk (Kd.R_elder' (R1_ HO314.out) (Kd.R_base ho0) hb); replace BK305 := yB_ BK305 hb; replace BK306 := yB_ BK306 hb; replace HB := y2_ hb; (try clear hb); (try clear ho0); obtain ⟨z51_0, y51_0⟩ := cz1_ BK306.out; obtain ⟨z52_0, y52_0⟩ := cz1_ BK305.out) | (go_at_call 10; (with_reducible refine (plan_Diff.calls kj4 _ _ l1_0 _ _ l0_0 t320 t323 _ ?side1 ?side2 ?side3 ?side4 A43.out).mono ?_); (case side1 => exact C1_ ((Kd.C_below HR1_0.out HB.out))); (case side2 => exact HC1_0.out); (case side3 => exact C1_ ((Kd.C_below HR0_0.out HB.out))); (case side4 => exact HC0_0.out); rintro e w53 ⟨v321, rfl, ho0, hb⟩; have HO322 := Aside0.mk (Kd.R_lower (Kd.R_new' (Kd.R_new' ho0 (Kd.R_lt (R1_ HO314.out))) (Kd.R_lt (R1_ HO318.out))) (below_size W2_)); replace HO314 := Aside0.mk (Kd.R_elder' (R1_ HO314.out) (Kd.R_base ho0) hb); replace HO318 := Aside0.mk (Kd.R_elder' (R1_ HO318.out) (Kd.R_base ho0) hb); replace BK305 := yB_ BK305 hb; replace BK306 := yB_ BK306 hb; replace HB := y2_ hb; (try clear hb); (try clear ho0))))
     (try simp only [Act.put, sA_, sZ_, sS_])
     go_cut [66] (fun v66 wc => ∃ (kq : Nat) (x66_43 : Bool), v66 = .bool x66_43 ∧ Aside0 (pantrylaw10_PlanTurns.j1 kq t312 t316 t320 x66_43 = some r) ∧ Aside0 (kq ≤ kj4) ∧ Aside0 (Kd.R k40 40 wc w.heap.size (fun k_ => some k_ ≠ (v317 : Value).ownBlock ∧ some k_ ≠ (v321 : Value).ownBlock) v313 t312) ∧ Aside0 (Kd.R k40 40 wc w.heap.size (fun k_ => some k_ ≠ (v313 : Value).ownBlock ∧ some k_ ≠ (v321 : Value).ownBlock) v317 t316) ∧ Aside0 (Kd.R k40 40 wc w.heap.size (fun k_ => some k_ ≠ (v313 : Value).ownBlock ∧ some k_ ≠ (v317 : Value).ownBlock) v321 t320) ∧ Aside0 (wc.heap[gb305]? = some (.cells #[(.slice A0_0 l0_0.length c0_0)] 24 (0, 0))) ∧ Aside0 (wc.heap[gb306]? = some (.cells #[(.slice A1_0 l1_0.length c1_0)] 24 (0, 0))) ∧ Aside0 (Below w.heap.size w wc))
     case first =>
      have H := HC44.out
      clear HC44
      by_cases c54 : (t312.length : Int) = (l0_0.length : Int)
      ·
       rw [if_pos c54] at H
       have c54b0 : ((t312.length : Int) == (l0_0.length : Int)) = true := beq_iff_eq.mpr c54
       have c54b1 : ((t312.length : Int) != (l0_0.length : Int)) = false := bne_eq_false_iff_eq.mpr c54
       have c54b2 : (t312.length == l0_0.length) = true := by first | simpa using c54 | (simp at c54 ⊢; omega)
       clear c54
       (first | rw [c54b0] | (simp only [i64_w, i32_w]; rw [c54b0]) | skip)
       have H' := Aside0.mk H
       clear H
       obtain ⟨Ao55, co55, eo55⟩ := Kd.R_slice HO314.out
       subst eo55
       have hnb56 := NB305_306.out
       have hnc56 := NB306_305.out
       obtain ⟨z57_0, y57_0⟩ := cz1_ BK305.out
       obtain ⟨Ao58, co58, eo58⟩ := Kd.R_slice HO318.out
       subst eo58
       obtain ⟨Ao59, co59, eo59⟩ := Kd.R_slice HO322.out
       subst eo59
       go_wp2
       repeat (go_quiet (fail); try go_wp2)
       go_meet
       case rel => exact ⟨_, (((t316.length : Int) != (t320.length : Int))), E3_, H', ⟨by have := HJ4.out; first | omega | exact Nat.le_refl _⟩, ⟨by refine R1_ ?_; exact Kd.R_mono HO314.out (fun _ hk => by first | exact ⟨hk.1.2, hk.2⟩ | simp_all)⟩, ⟨by refine R1_ ?_; exact Kd.R_mono HO318.out (fun _ hk => by first | exact ⟨hk.1.2, hk.2⟩ | simp_all)⟩, ⟨by refine R1_ ?_; exact Kd.R_mono HO322.out (fun _ hk => by first | exact ⟨hk.1.2, hk.2⟩ | simp_all)⟩, ⟨B1_ BK305.out⟩, ⟨B1_ BK306.out⟩, ⟨W2_⟩⟩
      ·
       rw [if_neg c54] at H
       have c54b0 : ((t312.length : Int) == (l0_0.length : Int)) = false := beq_eq_false_iff_ne.mpr c54
       have c54b1 : ((t312.length : Int) != (l0_0.length : Int)) = true := bne_iff_ne.mpr c54
       have c54b2 : (t312.length == l0_0.length) = false := by first | simpa using c54 | (simp at c54 ⊢; omega)
       (first | rw [c54b0] | (simp only [i64_w, i32_w]; rw [c54b0]) | skip)
       have H' := Aside0.mk H
       clear H
       obtain ⟨Ao60, co60, eo60⟩ := Kd.R_slice HO314.out
       subst eo60
       have hnb61 := NB305_306.out
       have hnc61 := NB306_305.out
       obtain ⟨z62_0, y62_0⟩ := cz1_ BK305.out
       go_wp2
       repeat (go_quiet (fail); try go_wp2)
       go_meet
       case rel => exact ⟨_, (true), E3_, H', ⟨by have := HJ4.out; first | omega | exact Nat.le_refl _⟩, ⟨by refine R1_ ?_; exact Kd.R_mono HO314.out (fun _ hk => by first | exact ⟨hk.1.2, hk.2⟩ | simp_all)⟩, ⟨by refine R1_ ?_; exact Kd.R_mono HO318.out (fun _ hk => by first | exact ⟨hk.1.2, hk.2⟩ | simp_all)⟩, ⟨by refine R1_ ?_; exact Kd.R_mono HO322.out (fun _ hk => by first | exact ⟨hk.1.2, hk.2⟩ | simp_all)⟩, ⟨B1_ BK305.out⟩, ⟨B1_ BK306.out⟩, ⟨W2_⟩⟩
     case rest =>
      clear HC44
      (try clear c4); (try clear c10); (try clear c12); (try clear c14); (try clear c40); (try clear c54); (try clear c54b0); (try clear c54b1); (try clear c54b2); (try clear z17_0 y17_0); (try clear z19_0 y19_0); (try clear z21_0 y21_0); (try clear z23_0 y23_0); (try clear z26_0 y26_0); (try clear z28_0 y28_0); (try clear z30_0 y30_0); (try clear z33_0 y33_0); (try clear z35_0 y35_0); (try clear z38_0 y38_0); (try clear z46_0 y46_0); (try clear z48_0 y48_0); (try clear z49_0 y49_0); (try clear z51_0 y51_0); (try clear z52_0 y52_0); (try clear z57_0 y57_0); (try clear z62_0 y62_0)
      obtain ⟨kq, x66_43, rfl, HA, HJ43, HO_5, HO_7, HO_9, BK305, BK306, HB⟩ := hcut
      cases kq with
      | zero => exact absurd HA.out (by simp [pantrylaw10_PlanTurns.j1])
      | succ kj43 =>
       have H := HA.out
       clear HA
       simp only [pantrylaw10_PlanTurns.j1] at H
       by_cases c63 : x66_43 = true
       ·
        subst c63
        rw [if_pos rfl] at H
        exact absurd H (by simp)
       ·
        replace c63 := Bool.eq_false_iff.mpr c63
        subst c63
        rw [if_neg (show ¬ (false = true) by decide)] at H
        have H' := Aside0.mk H
        clear H
        obtain ⟨Ao64, co64, eo64⟩ := Kd.R_slice HO_5.out
        subst eo64
        go_wp2
        repeat (go_quiet (fail); try go_wp2)
        go_loopg [69] kj43 (fun kq v69 w' => ∃ (x69_3 : Int), v69 = .int .i64 x69_3 ∧ Aside0 (pantrylaw10_PlanTurns.l0 kq t316 t320 t312 (t312.length : Int) x69_3 = some r) ∧ Aside0 (kq ≤ kj43) ∧ Aside0 (Kd.R k40 40 w' w.heap.size (fun k_ => some k_ ≠ (v321 : Value).ownBlock ∧ some k_ ≠ ((.slice Ao64 t312.length co64) : Value).ownBlock) v317 t316) ∧ Aside0 (Kd.R k40 40 w' w.heap.size (fun k_ => some k_ ≠ (v317 : Value).ownBlock ∧ some k_ ≠ ((.slice Ao64 t312.length co64) : Value).ownBlock) v321 t320) ∧ Aside0 (Kd.R k40 40 w' w.heap.size (fun k_ => some k_ ≠ (v317 : Value).ownBlock ∧ some k_ ≠ (v321 : Value).ownBlock) (.slice Ao64 t312.length co64) t312) ∧ Aside0 (w'.heap[gb305]? = some (.cells #[(.slice A0_0 l0_0.length c0_0)] 24 (0, 0))) ∧ Aside0 (w'.heap[gb306]? = some (.cells #[(.slice A1_0 l1_0.length c1_0)] 24 (0, 0))) ∧ Aside0 (Below w.heap.size w w'))
        case atStart => exact ⟨(0), E3_, H', ⟨Nat.le_refl _⟩, ⟨by refine R1_ ?_; exact Kd.R_mono HO_7.out (fun _ hk => by first | exact ⟨hk.2, hk.1⟩ | simp_all)⟩, ⟨by refine R1_ ?_; exact Kd.R_mono HO_9.out (fun _ hk => by first | exact ⟨hk.2, hk.1⟩ | simp_all)⟩, ⟨R1_ HO_5.out⟩, ⟨B1_ BK305.out⟩, ⟨B1_ BK306.out⟩, ⟨W2_⟩⟩
        case round =>
         clear H'
         (try clear c4); (try clear c10); (try clear c12); (try clear c14); (try clear c40); (try clear c54); (try clear c54b0); (try clear c54b1); (try clear c54b2); (try clear c63); (try clear z17_0 y17_0); (try clear z19_0 y19_0); (try clear z21_0 y21_0); (try clear z23_0 y23_0); (try clear z26_0 y26_0); (try clear z28_0 y28_0); (try clear z30_0 y30_0); (try clear z33_0 y33_0); (try clear z35_0 y35_0); (try clear z38_0 y38_0); (try clear z46_0 y46_0); (try clear z48_0 y48_0); (try clear z49_0 y49_0); (try clear z51_0 y51_0); (try clear z52_0 y52_0); (try clear z57_0 y57_0); (try clear z62_0 y62_0)
         obtain ⟨x69_3, rfl, HA, HK3, HO_7, HO_9, HO_67, BK305, BK306, HB⟩ := hrel
         cases gk with
         | zero => exact absurd HA.out (by simp [pantrylaw10_PlanTurns.l0])
         | succ k3 =>
          have H := HA.out
          clear HA
          simp only [pantrylaw10_PlanTurns.l0] at H
          by_cases c65 : x69_3 < (t312.length : Int)
          ·
           rw [if_pos c65] at H
           have c65b0 : decide (x69_3 < (t312.length : Int)) = true := decide_eq_true c65
           clear c65
           by_cases c66 : 0 ≤ x69_3
           ·
            rw [if_pos c66] at H
            have c66b0 : decide (0 ≤ x69_3) = true := decide_eq_true c66
            clear c66
            by_cases c67 : x69_3 < (t312.length : Int)
            ·
             rw [if_pos c67] at H
             have c67b0 : decide (x69_3 < (t312.length : Int)) = true := decide_eq_true c67
             clear c67
             by_cases c68 : ((rd_T40 t312 x69_3).f0) = 0
             ·
              rw [if_pos c68] at H
              have c68b0 : (((rd_T40 t312 x69_3).f0) == 0) = true := beq_iff_eq.mpr c68
              have c68b1 : (((rd_T40 t312 x69_3).f0) != 0) = false := bne_eq_false_iff_eq.mpr c68
              clear c68
              have H' := Aside0.mk H
              clear H
              have p324 : 0 ≤ (x69_3 : Int) := oA_
              have q324 : x69_3 < (t312.length : Int) := oA_
              obtain ⟨ad324, e324, hx324_0, hx324_1⟩ := at_T40 (Kd.R_reads' HO_67.out).2.2 x69_3 p324 q324
              cases e324
              replace p324 := eq_true p324
              replace q324 := eq_true q324
              go_wp2_with (first | ((with_reducible refine gate_dst (N := 12) rfl ?_); (try (refine gate_guard (by rfl) ?_; dsimp only)); refine box_event ?hg (N := 12) ?hd (cs := #[.int .i64 0, .string (⟨#[]⟩ : ByteArray)]) (t := 40) ?hr ?_; (case hd | hg => rfl); (case hr => exact S1_); intro gb325 hg w69 hbox hb; have BK325 := Aside0.mk (hbox); have GW325 := Aside0.mk ((Z2_ : w.heap.size ≤ gb325)); have GE325 := Aside0.mk ((Z2_ : w.heap.size ≤ gb325)); have NB305_325 := Aside0.mk ((by rw [hg]; exact Nat.ne_of_lt (blk_lt (B1_ BK305.out)) : gb305 ≠ gb325)); have NB325_305 := Aside0.mk ((by rw [hg]; exact Nat.ne_of_gt (blk_lt (B1_ BK305.out)) : gb325 ≠ gb305)); have NB306_325 := Aside0.mk ((by rw [hg]; exact Nat.ne_of_lt (blk_lt (B1_ BK306.out)) : gb306 ≠ gb325)); have NB325_306 := Aside0.mk ((by rw [hg]; exact Nat.ne_of_gt (blk_lt (B1_ BK306.out)) : gb325 ≠ gb306)); replace HO_7 := Aside0.mk (Kd.R_below (Kd.R_elderB (R1_ HO_7.out) gb325 (Nat.le_of_eq hg.symm)) hb); replace HO_9 := Aside0.mk (Kd.R_below (Kd.R_elderB (R1_ HO_9.out) gb325 (Nat.le_of_eq hg.symm)) hb); replace HO_67 := Aside0.mk (Kd.R_below (Kd.R_elderB (R1_ HO_67.out) gb325 (Nat.le_of_eq hg.symm)) hb); replace BK305 := yB_ BK305 hb; replace BK306 := yB_ BK306 hb; replace HB := y2_ hb; clear hb hbox hg; have hnb70 := NB325_305.out; have hnc70 := NB305_325.out; have hnb71 := NB325_306.out; have hnc71 := NB306_325.out; obtain ⟨z72_0, z72_1, y72_0, y72_1⟩ := cz2_ BK325.out))
              repeat (go_quiet (first | ((with_reducible refine gate_dst (N := 12) rfl ?_); (try (refine gate_guard (by rfl) ?_; dsimp only)); refine box_event ?hg (N := 12) ?hd (cs := #[.int .i64 0, .string (⟨#[]⟩ : ByteArray)]) (t := 40) ?hr ?_; (case hd | hg => rfl); (case hr => exact S1_); intro gb325 hg w69 hbox hb; have BK325 := Aside0.mk (hbox); have GW325 := Aside0.mk ((Z2_ : w.heap.size ≤ gb325)); have GE325 := Aside0.mk ((Z2_ : w.heap.size ≤ gb325)); have NB305_325 := Aside0.mk ((by rw [hg]; exact Nat.ne_of_lt (blk_lt (B1_ BK305.out)) : gb305 ≠ gb325)); have NB325_305 := Aside0.mk ((by rw [hg]; exact Nat.ne_of_gt (blk_lt (B1_ BK305.out)) : gb325 ≠ gb305)); have NB306_325 := Aside0.mk ((by rw [hg]; exact Nat.ne_of_lt (blk_lt (B1_ BK306.out)) : gb306 ≠ gb325)); have NB325_306 := Aside0.mk ((by rw [hg]; exact Nat.ne_of_gt (blk_lt (B1_ BK306.out)) : gb325 ≠ gb306)); replace HO_7 := Aside0.mk (Kd.R_below (Kd.R_elderB (R1_ HO_7.out) gb325 (Nat.le_of_eq hg.symm)) hb); replace HO_9 := Aside0.mk (Kd.R_below (Kd.R_elderB (R1_ HO_9.out) gb325 (Nat.le_of_eq hg.symm)) hb); replace HO_67 := Aside0.mk (Kd.R_below (Kd.R_elderB (R1_ HO_67.out) gb325 (Nat.le_of_eq hg.symm)) hb); replace BK305 := yB_ BK305 hb; replace BK306 := yB_ BK306 hb; replace HB := y2_ hb; clear hb hbox hg; have hnb70 := NB325_305.out; have hnc70 := NB305_325.out; have hnb71 := NB325_306.out; have hnc71 := NB306_325.out; obtain ⟨z72_0, z72_1, y72_0, y72_1⟩ := cz2_ BK325.out)); try go_wp2_with (first | ((with_reducible refine gate_dst (N := 12) rfl ?_); (try (refine gate_guard (by rfl) ?_; dsimp only)); refine box_event ?hg (N := 12) ?hd (cs := #[.int .i64 0, .string (⟨#[]⟩ : ByteArray)]) (t := 40) ?hr ?_; (case hd | hg => rfl); (case hr => exact S1_); intro gb325 hg w69 hbox hb; have BK325 := Aside0.mk (hbox); have GW325 := Aside0.mk ((Z2_ : w.heap.size ≤ gb325)); have GE325 := Aside0.mk ((Z2_ : w.heap.size ≤ gb325)); have NB305_325 := Aside0.mk ((by rw [hg]; exact Nat.ne_of_lt (blk_lt (B1_ BK305.out)) : gb305 ≠ gb325)); have NB325_305 := Aside0.mk ((by rw [hg]; exact Nat.ne_of_gt (blk_lt (B1_ BK305.out)) : gb325 ≠ gb305)); have NB306_325 := Aside0.mk ((by rw [hg]; exact Nat.ne_of_lt (blk_lt (B1_ BK306.out)) : gb306 ≠ gb325)); have NB325_306 := Aside0.mk ((by rw [hg]; exact Nat.ne_of_gt (blk_lt (B1_ BK306.out)) : gb325 ≠ gb306)); replace HO_7 := Aside0.mk (Kd.R_below (Kd.R_elderB (R1_ HO_7.out) gb325 (Nat.le_of_eq hg.symm)) hb); replace HO_9 := Aside0.mk (Kd.R_below (Kd.R_elderB (R1_ HO_9.out) gb325 (Nat.le_of_eq hg.symm)) hb); replace HO_67 := Aside0.mk (Kd.R_below (Kd.R_elderB (R1_ HO_67.out) gb325 (Nat.le_of_eq hg.symm)) hb); replace BK305 := yB_ BK305 hb; replace BK306 := yB_ BK306 hb; replace HB := y2_ hb; clear hb hbox hg; have hnb70 := NB325_305.out; have hnc70 := NB305_325.out; have hnb71 := NB325_306.out; have hnc71 := NB306_325.out; obtain ⟨z72_0, z72_1, y72_0, y72_1⟩ := cz2_ BK325.out)))
              go_roundg k3
              case measure => have := HJ4.out; have := HJ43.out; have := HK3.out; omega
              case rel => exact ⟨(wrap64 (x69_3 + 1)), E3_, H', ⟨by have := HJ4.out; have := HJ43.out; have := HK3.out; omega⟩, ⟨by refine R1_ ?_; exact Kd.R_mono (Kd.R_far (p := ⟨gb325, 1, none⟩) (Kd.R_far (p := ⟨gb325, 0, none⟩) (Kd.R_mono HO_7.out (fun k_ hk => (⟨hk, hk.2⟩ : _ ∧ k_ ≠ gb325))) (fun _ hk => hk.2) (.int .i64 ((rd_T40 t312 x69_3).f0))) (fun _ hk => hk.2) (.string ((rd_T40 t312 x69_3).f1))) (fun _ hk => by first | exact ⟨hk.1.1.1, hk.1.1.2⟩ | simp_all)⟩, ⟨by refine R1_ ?_; exact Kd.R_mono (Kd.R_far (p := ⟨gb325, 1, none⟩) (Kd.R_far (p := ⟨gb325, 0, none⟩) (Kd.R_mono HO_9.out (fun k_ hk => (⟨hk, hk.2⟩ : _ ∧ k_ ≠ gb325))) (fun _ hk => hk.2) (.int .i64 ((rd_T40 t312 x69_3).f0))) (fun _ hk => hk.2) (.string ((rd_T40 t312 x69_3).f1))) (fun _ hk => by first | exact ⟨hk.1.1.1, hk.1.1.2⟩ | simp_all)⟩, ⟨by refine R1_ ?_; exact Kd.R_mono (Kd.R_far (p := ⟨gb325, 1, none⟩) (Kd.R_far (p := ⟨gb325, 0, none⟩) (Kd.R_mono HO_67.out (fun k_ hk => (⟨hk, hk.2⟩ : _ ∧ k_ ≠ gb325))) (fun _ hk => hk.2) (.int .i64 ((rd_T40 t312 x69_3).f0))) (fun _ hk => hk.2) (.string ((rd_T40 t312 x69_3).f1))) (fun _ hk => by first | exact ⟨hk.1.1.1, hk.1.1.2⟩ | simp_all)⟩, ⟨G1_ BK305.out⟩, ⟨G1_ BK306.out⟩, ⟨W2_⟩⟩
             ·
              rw [if_neg c68] at H
              exact absurd H (by simp)
            ·
             rw [if_neg c67] at H
             exact absurd H (by simp)
           ·
            rw [if_neg c66] at H
            exact absurd H (by simp)
          ·
           rw [if_neg c65] at H
           have c65b0 : decide (x69_3 < (t312.length : Int)) = false := decide_eq_false c65
           clear c65
           have H' := Aside0.mk H
           clear H
           obtain ⟨Ao73, co73, eo73⟩ := Kd.R_slice HO_7.out
           subst eo73
           go_wp2
           repeat (go_quiet (fail); try go_wp2)
           go_loopg [79] k3 (fun kq v79 w' => ∃ (x79_4 : Int), v79 = .int .i64 x79_4 ∧ Aside0 (pantrylaw10_PlanTurns.l1 kq t316 t320 t316 (t316.length : Int) x79_4 = some r) ∧ Aside0 (kq ≤ k3) ∧ Aside0 (Kd.R k40 40 w' w.heap.size (fun k_ => some k_ ≠ (v321 : Value).ownBlock) (.slice Ao73 t316.length co73) t316) ∧ Aside0 (Kd.R k40 40 w' w.heap.size (fun k_ => some k_ ≠ ((.slice Ao73 t316.length co73) : Value).ownBlock ∧ some k_ ≠ ((.slice Ao73 t316.length co73) : Value).ownBlock) v321 t320) ∧ Aside0 (Kd.R k40 40 w' w.heap.size (fun k_ => some k_ ≠ (v321 : Value).ownBlock) (.slice Ao73 t316.length co73) t316) ∧ Aside0 (w'.heap[gb305]? = some (.cells #[(.slice A0_0 l0_0.length c0_0)] 24 (0, 0))) ∧ Aside0 (w'.heap[gb306]? = some (.cells #[(.slice A1_0 l1_0.length c1_0)] 24 (0, 0))) ∧ Aside0 (Below w.heap.size w w'))
           case atStart => exact ⟨(0), E3_, H', ⟨Nat.le_refl _⟩, ⟨by refine R1_ ?_; exact Kd.R_mono HO_7.out (fun _ hk => hk.1)⟩, ⟨by refine R1_ ?_; exact Kd.R_mono HO_9.out (fun _ hk => by first | exact ⟨hk.1, hk.1⟩ | simp_all)⟩, ⟨by refine R1_ ?_; exact Kd.R_mono HO_7.out (fun _ hk => hk.1)⟩, ⟨B1_ BK305.out⟩, ⟨B1_ BK306.out⟩, ⟨W2_⟩⟩
           case round =>
            clear H'
            (try clear c4); (try clear c10); (try clear c12); (try clear c14); (try clear c40); (try clear c54); (try clear c54b0); (try clear c54b1); (try clear c54b2); (try clear c63); (try clear c65); (try clear c65b0); (try clear c66); (try clear c66b0); (try clear c67); (try clear c67b0); (try clear c68); (try clear c68b0); (try clear c68b1); (try clear z17_0 y17_0); (try clear z19_0 y19_0); (try clear z21_0 y21_0); (try clear z23_0 y23_0); (try clear z26_0 y26_0); (try clear z28_0 y28_0); (try clear z30_0 y30_0); (try clear z33_0 y33_0); (try clear z35_0 y35_0); (try clear z38_0 y38_0); (try clear z46_0 y46_0); (try clear z48_0 y48_0); (try clear z49_0 y49_0); (try clear z51_0 y51_0); (try clear z52_0 y52_0); (try clear z57_0 y57_0); (try clear z62_0 y62_0); (try clear z72_0 z72_1 y72_0 y72_1); (try clear hx324_0); (try clear hx324_1); (try clear p324); (try clear q324)
            obtain ⟨x79_4, rfl, HA, HK4, HO_7, HO_9, HO_77, BK305, BK306, HB⟩ := hrel
            cases gk with
            | zero => exact absurd HA.out (by simp [pantrylaw10_PlanTurns.l1])
            | succ k4 =>
             have H := HA.out
             clear HA
             simp only [pantrylaw10_PlanTurns.l1] at H
             by_cases c74 : x79_4 < (t316.length : Int)
             ·
              rw [if_pos c74] at H
              have c74b0 : decide (x79_4 < (t316.length : Int)) = true := decide_eq_true c74
              clear c74
              by_cases c75 : 0 ≤ x79_4
              ·
               rw [if_pos c75] at H
               have c75b0 : decide (0 ≤ x79_4) = true := decide_eq_true c75
               clear c75
               by_cases c76 : x79_4 < (t316.length : Int)
               ·
                rw [if_pos c76] at H
                have c76b0 : decide (x79_4 < (t316.length : Int)) = true := decide_eq_true c76
                clear c76
                obtain ⟨y328, hy328⟩ : ∃ y_ : List Int, y_ = (([0, 1, 3, 2] : List Int)) := ⟨_, rfl⟩
                replace H : (if 0 ≤ ((rd_T40 t316 x79_4).f0) then (if ((rd_T40 t316 x79_4).f0) < (y328.length : Int) then (if x79_4 < (t320.length : Int) then (if ((rd_T40 t320 x79_4).f1).toList = ((rd_T40 t316 x79_4).f1).toList then (if ((rd_T40 t320 x79_4).f0) = (rd y328 ((rd_T40 t316 x79_4).f0)) then (if x79_4 > 0 then (if 0 ≤ (wrap64 (x79_4 - 1)) then (if (wrap64 (x79_4 - 1)) < (t316.length : Int) then (if ((Op.bytesLess (((rd_T40 t316 (wrap64 (x79_4 - 1))).f1).toList) (((rd_T40 t316 x79_4).f1).toList)) = true) then (pantrylaw10_PlanTurns.l1 k4 t316 t320 t316 (t316.length : Int) (wrap64 (x79_4 + 1))) else (none)) else (none)) else (none)) else (pantrylaw10_PlanTurns.l1 k4 t316 t320 t316 (t316.length : Int) (wrap64 (x79_4 + 1)))) else (none)) else (none)) else (none)) else (none)) else (none)) = some r := by first | (rw [hy328]; with_reducible exact H) | (have H2_ := (Option.bind_some _ _).symm.trans H; rw [hy328]; with_reducible exact H2_) | (have H2_ := (Option.bind_some _ _).symm.trans H; with_reducible exact H2_) | with_reducible exact H | (rw [hy328]; exact H) | exact H
                have Ny328 := Aside0.mk hy328
                clear hy328
                by_cases c77 : 0 ≤ ((rd_T40 t316 x79_4).f0)
                ·
                 rw [if_pos c77] at H
                 have c77b0 : decide (0 ≤ ((rd_T40 t316 x79_4).f0)) = true := decide_eq_true c77
                 clear c77
                 by_cases c78 : ((rd_T40 t316 x79_4).f0) < (y328.length : Int)
                 ·
                  rw [if_pos c78] at H
                  have c78b0 : decide (((rd_T40 t316 x79_4).f0) < (y328.length : Int)) = true := decide_eq_true c78
                  clear c78
                  by_cases c79 : x79_4 < (t320.length : Int)
                  ·
                   rw [if_pos c79] at H
                   have c79b0 : decide (x79_4 < (t320.length : Int)) = true := decide_eq_true c79
                   clear c79
                   by_cases c80 : ((rd_T40 t320 x79_4).f1).toList = ((rd_T40 t316 x79_4).f1).toList
                   ·
                    rw [if_pos c80] at H
                    have c80b0 : (((rd_T40 t320 x79_4).f1).toList == ((rd_T40 t316 x79_4).f1).toList) = true := beq_iff_eq.mpr c80
                    have c80b1 : (((rd_T40 t320 x79_4).f1).toList != ((rd_T40 t316 x79_4).f1).toList) = false := bne_eq_false_iff_eq.mpr c80
                    clear c80
                    by_cases c81 : ((rd_T40 t320 x79_4).f0) = (rd y328 ((rd_T40 t316 x79_4).f0))
                    ·
                     rw [if_pos c81] at H
                     have c81b0 : (((rd_T40 t320 x79_4).f0) == (rd y328 ((rd_T40 t316 x79_4).f0))) = true := beq_iff_eq.mpr c81
                     have c81b1 : (((rd_T40 t320 x79_4).f0) != (rd y328 ((rd_T40 t316 x79_4).f0))) = false := bne_eq_false_iff_eq.mpr c81
                     clear c81
                     by_cases c82 : x79_4 > 0
                     ·
                      rw [if_pos c82] at H
                      have c82b0 : decide (0 < x79_4) = true := decide_eq_true c82
                      clear c82
                      obtain ⟨ji83, hji83⟩ : ∃ j_ : Int, (wrap64 (x79_4 - 1)) = j_ := ⟨_, rfl⟩
                      replace H : (if 0 ≤ (ji83) then (if (ji83) < (t316.length : Int) then (if ((Op.bytesLess (((rd_T40 t316 (ji83)).f1).toList) (((rd_T40 t316 x79_4).f1).toList)) = true) then (pantrylaw10_PlanTurns.l1 k4 t316 t320 t316 (t316.length : Int) (wrap64 (x79_4 + 1))) else (none)) else (none)) else (none)) = some r := by first | (rw [hji83] at H; exact H) | (simp only [hji83] at H ⊢; exact H)
                      have hji83w : (IntKind.i64.wrap (x79_4 - 1)) = ji83 := (i64_w _).trans hji83
                      by_cases c84 : 0 ≤ (ji83)
                      ·
                       rw [if_pos c84] at H
                       have c84b0 : decide (0 ≤ (ji83)) = true := decide_eq_true c84
                       clear c84
                       by_cases c85 : (ji83) < (t316.length : Int)
                       ·
                        rw [if_pos c85] at H
                        have c85b0 : decide ((ji83) < (t316.length : Int)) = true := decide_eq_true c85
                        clear c85
                        by_cases c86 : ((Op.bytesLess (((rd_T40 t316 (ji83)).f1).toList) (((rd_T40 t316 x79_4).f1).toList)) = true)
                        ·
                         rw [if_pos c86] at H
                         have c86b0 : (Op.bytesLess (((rd_T40 t316 (ji83)).f1).toList) (((rd_T40 t316 x79_4).f1).toList)) = true := c86
                         have c86b8 := bl_asymm c86b0
                         have c86b9 := bl_ne c86b0
                         clear c86
                         have H' := Aside0.mk H
                         clear H
                         have p326 : 0 ≤ (x79_4 : Int) := oA_
                         have q326 : x79_4 < (t316.length : Int) := oA_
                         obtain ⟨ad326, e326, hx326_0, hx326_1⟩ := at_T40 (Kd.R_reads' HO_77.out).2.2 x79_4 p326 q326
                         cases e326
                         replace p326 := eq_true p326
                         replace q326 := eq_true q326
                         go_wp2_with (first | ((with_reducible refine gate_dst (N := 14) rfl ?_); (try (refine gate_guard (by rfl) ?_; dsimp only)); refine box_event ?hg (N := 14) ?hd (cs := #[.int .i64 0, .string (⟨#[]⟩ : ByteArray)]) (t := 40) ?hr ?_; (case hd | hg => rfl); (case hr => exact S1_); intro gb327 hg w87 hbox hb; have BK327 := Aside0.mk (hbox); have GW327 := Aside0.mk ((Z2_ : w.heap.size ≤ gb327)); have GE327 := Aside0.mk ((Z2_ : w.heap.size ≤ gb327)); have NB305_327 := Aside0.mk ((by rw [hg]; exact Nat.ne_of_lt (blk_lt (B1_ BK305.out)) : gb305 ≠ gb327)); have NB327_305 := Aside0.mk ((by rw [hg]; exact Nat.ne_of_gt (blk_lt (B1_ BK305.out)) : gb327 ≠ gb305)); have NB306_327 := Aside0.mk ((by rw [hg]; exact Nat.ne_of_lt (blk_lt (B1_ BK306.out)) : gb306 ≠ gb327)); have NB327_306 := Aside0.mk ((by rw [hg]; exact Nat.ne_of_gt (blk_lt (B1_ BK306.out)) : gb327 ≠ gb306)); replace HO_7 := Aside0.mk (Kd.R_below (Kd.R_elderB (R1_ HO_7.out) gb327 (Nat.le_of_eq hg.symm)) hb); replace HO_9 := Aside0.mk (Kd.R_below (Kd.R_elderB (R1_ HO_9.out) gb327 (Nat.le_of_eq hg.symm)) hb); replace HO_77 := Aside0.mk (Kd.R_below (Kd.R_elderB (R1_ HO_77.out) gb327 (Nat.le_of_eq hg.symm)) hb); replace BK305 := yB_ BK305 hb; replace BK306 := yB_ BK306 hb; replace HB := y2_ hb; clear hb hbox hg; have hnb88 := NB327_305.out; have hnc88 := NB305_327.out; have hnb89 := NB327_306.out; have hnc89 := NB306_327.out; obtain ⟨z90_0, z90_1, y90_0, y90_1⟩ := cz2_ BK327.out) | ((with_reducible refine gate_dst (N := 84) rfl ?_); (try (refine gate_guard (by rfl) ?_; dsimp only)); refine Kd.R_lit (Kd.int .i64) _ 3 ?hg (N := 84) ?hd (xs := ([0, 1, 3, 2] : List Int)) (inner := [.int .i64 0, .int .i64 1, .int .i64 3, .int .i64 2]) (ok := fun _ => True) (okp := fun _ => True) ?hr ?hp (fun _ hk => hk) trivial (Below.refl _ _) (Nat.le_refl _) (by simp) ?_; (case hd | hg => rfl); (case hr => exact S1_); (case hp => exact (Reps.one (show Kd.M (Kd.int .i64) _ _ _ 0 [.int .i64 0] from rfl) (Reps.one (show Kd.M (Kd.int .i64) _ _ _ 1 [.int .i64 1] from rfl) (Reps.one (show Kd.M (Kd.int .i64) _ _ _ 3 [.int .i64 3] from rfl) (Reps.one (show Kd.M (Kd.int .i64) _ _ _ 2 [.int .i64 2] from rfl) (Reps.none _ _)))))); intro v329 w91 ho92 hb hg_ hnew_; clear hg_ hnew_; (first | rw [← Ny328.out] at ho92 | (simp only [Int.reduceToNat] at ho92; rw [← Ny328.out] at ho92)); replace HO_7 := Aside0.mk (Kd.R_below (by refine R1_ ?_; exact (Kd.R_mono (Kd.R_far (p := ⟨gb327, 1, none⟩) (Kd.R_far (p := ⟨gb327, 0, none⟩) (Kd.R_mono HO_7.out (fun k_ hk => (⟨hk, hk.2⟩ : _ ∧ k_ ≠ gb327))) (fun _ hk => hk.2) (.int .i64 ((rd_T40 t316 x79_4).f0))) (fun _ hk => hk.2) (.string ((rd_T40 t316 x79_4).f1))) (fun _ h_ => h_.1))) hb); replace HO_9 := Aside0.mk (Kd.R_below (by refine R1_ ?_; exact (Kd.R_mono (Kd.R_far (p := ⟨gb327, 1, none⟩) (Kd.R_far (p := ⟨gb327, 0, none⟩) (Kd.R_mono HO_9.out (fun k_ hk => (⟨hk, hk.2⟩ : _ ∧ k_ ≠ gb327))) (fun _ hk => hk.2) (.int .i64 ((rd_T40 t316 x79_4).f0))) (fun _ hk => hk.2) (.string ((rd_T40 t316 x79_4).f1))) (fun _ h_ => h_.1))) hb); replace HO_77 := Aside0.mk (Kd.R_below (by refine R1_ ?_; exact (Kd.R_mono (Kd.R_far (p := ⟨gb327, 1, none⟩) (Kd.R_far (p := ⟨gb327, 0, none⟩) (Kd.R_mono HO_77.out (fun k_ hk => (⟨hk, hk.2⟩ : _ ∧ k_ ≠ gb327))) (fun _ hk => hk.2) (.int .i64 ((rd_T40 t316 x79_4).f0))) (fun _ hk => hk.2) (.string ((rd_T40 t316 x79_4).f1))) (fun _ h_ => h_.1))) hb); have HO330 := Aside0.mk (Kd.R_lower ho92 (below_size W2_)); replace BK305 := Aside0.mk (blk_below (g := gb305) (o := .cells #[.slice A0_0 l0_0.length c0_0] 24 (0, 0)) (G1_ BK305.out) hb); replace BK306 := Aside0.mk (blk_below (g := gb306) (o := .cells #[.slice A1_0 l1_0.length c1_0] 24 (0, 0)) (G1_ BK306.out) hb); replace BK327 := Aside0.mk (blk_below (g := gb327) (o := .cells #[.int .i64 ((rd_T40 t316 x79_4).f0), .string ((rd_T40 t316 x79_4).f1)] 40 (0, 0)) (G1_ BK327.out) hb); replace HB := y2_ hb; clear hb ho92; obtain ⟨z93_0, z93_1, y93_0, y93_1⟩ := cz2_ BK327.out; obtain ⟨Ao94, co94, eo94⟩ := Kd.R_slice HO330.out; subst eo94; have p331 : 0 ≤ (((rd_T40 t316 x79_4).f0) : Int) := oA_; have q331 : ((rd_T40 t316 x79_4).f0) < (y328.length : Int) := oA_; obtain ⟨ad331, e331, hx331_0⟩ := Kd.at_int (Kd.R_reads' HO330.out).2.2 ((rd_T40 t316 x79_4).f0) p331 q331; cases e331; replace p331 := eq_true p331; replace q331 := eq_true q331; obtain ⟨Ao95, co95, eo95⟩ := Kd.R_slice HO_9.out; subst eo95; have p332 : 0 ≤ (x79_4 : Int) := oA_; have q332 : x79_4 < (t320.length : Int) := oA_; obtain ⟨ad332, e332, hx332_0, hx332_1⟩ := at_T40 (Kd.R_reads' HO_9.out).2.2 x79_4 p332 q332; cases e332; replace p332 := eq_true p332; replace q332 := eq_true q332; have p333 : 0 ≤ (x79_4 : Int) := oA_; have q333 : x79_4 < (t320.length : Int) := oA_; obtain ⟨ad333, e333, hx333_0, hx333_1⟩ := at_T40 (Kd.R_reads' HO_9.out).2.2 x79_4 p333 q333; obtain rfl : ad332 = ad333 := (by injection e333); replace p333 := eq_true p333; replace q333 := eq_true q333; have p334 : 0 ≤ ((ji83) : Int) := oA_; have q334 : (ji83) < (t316.length : Int) := oA_; obtain ⟨ad334, e334, hx334_0, hx334_1⟩ := at_T40 (Kd.R_reads' HO_7.out).2.2 (ji83) p334 q334; obtain rfl : ad326 = ad334 := (by injection e334); replace p334 := eq_true p334; replace q334 := eq_true q334))
                         repeat (go_quiet (first | ((with_reducible refine gate_dst (N := 14) rfl ?_); (try (refine gate_guard (by rfl) ?_; dsimp only)); refine box_event ?hg (N := 14) ?hd (cs := #[.int .i64 0, .string (⟨#[]⟩ : ByteArray)]) (t := 40) ?hr ?_; (case hd | hg => rfl); (case hr => exact S1_); intro gb327 hg w87 hbox hb; have BK327 := Aside0.mk (hbox); have GW327 := Aside0.mk ((Z2_ : w.heap.size ≤ gb327)); have GE327 := Aside0.mk ((Z2_ : w.heap.size ≤ gb327)); have NB305_327 := Aside0.mk ((by rw [hg]; exact Nat.ne_of_lt (blk_lt (B1_ BK305.out)) : gb305 ≠ gb327)); have NB327_305 := Aside0.mk ((by rw [hg]; exact Nat.ne_of_gt (blk_lt (B1_ BK305.out)) : gb327 ≠ gb305)); have NB306_327 := Aside0.mk ((by rw [hg]; exact Nat.ne_of_lt (blk_lt (B1_ BK306.out)) : gb306 ≠ gb327)); have NB327_306 := Aside0.mk ((by rw [hg]; exact Nat.ne_of_gt (blk_lt (B1_ BK306.out)) : gb327 ≠ gb306)); replace HO_7 := Aside0.mk (Kd.R_below (Kd.R_elderB (R1_ HO_7.out) gb327 (Nat.le_of_eq hg.symm)) hb); replace HO_9 := Aside0.mk (Kd.R_below (Kd.R_elderB (R1_ HO_9.out) gb327 (Nat.le_of_eq hg.symm)) hb); replace HO_77 := Aside0.mk (Kd.R_below (Kd.R_elderB (R1_ HO_77.out) gb327 (Nat.le_of_eq hg.symm)) hb); replace BK305 := yB_ BK305 hb; replace BK306 := yB_ BK306 hb; replace HB := y2_ hb; clear hb hbox hg; have hnb88 := NB327_305.out; have hnc88 := NB305_327.out; have hnb89 := NB327_306.out; have hnc89 := NB306_327.out; obtain ⟨z90_0, z90_1, y90_0, y90_1⟩ := cz2_ BK327.out) | ((with_reducible refine gate_dst (N := 84) rfl ?_); (try (refine gate_guard (by rfl) ?_; dsimp only)); refine Kd.R_lit (Kd.int .i64) _ 3 ?hg (N := 84) ?hd (xs := ([0, 1, 3, 2] : List Int)) (inner := [.int .i64 0, .int .i64 1, .int .i64 3, .int .i64 2]) (ok := fun _ => True) (okp := fun _ => True) ?hr ?hp (fun _ hk => hk) trivial (Below.refl _ _) (Nat.le_refl _) (by simp) ?_; (case hd | hg => rfl); (case hr => exact S1_); (case hp => exact (Reps.one (show Kd.M (Kd.int .i64) _ _ _ 0 [.int .i64 0] from rfl) (Reps.one (show Kd.M (Kd.int .i64) _ _ _ 1 [.int .i64 1] from rfl) (Reps.one (show Kd.M (Kd.int .i64) _ _ _ 3 [.int .i64 3] from rfl) (Reps.one (show Kd.M (Kd.int .i64) _ _ _ 2 [.int .i64 2] from rfl) (Reps.none _ _)))))); intro v329 w91 ho92 hb hg_ hnew_; clear hg_ hnew_; (first | rw [← Ny328.out] at ho92 | (simp only [Int.reduceToNat] at ho92; rw [← Ny328.out] at ho92)); replace HO_7 := Aside0.mk (Kd.R_below (by refine R1_ ?_; exact (Kd.R_mono (Kd.R_far (p := ⟨gb327, 1, none⟩) (Kd.R_far (p := ⟨gb327, 0, none⟩) (Kd.R_mono HO_7.out (fun k_ hk => (⟨hk, hk.2⟩ : _ ∧ k_ ≠ gb327))) (fun _ hk => hk.2) (.int .i64 ((rd_T40 t316 x79_4).f0))) (fun _ hk => hk.2) (.string ((rd_T40 t316 x79_4).f1))) (fun _ h_ => h_.1))) hb); replace HO_9 := Aside0.mk (Kd.R_below (by refine R1_ ?_; exact (Kd.R_mono (Kd.R_far (p := ⟨gb327, 1, none⟩) (Kd.R_far (p := ⟨gb327, 0, none⟩) (Kd.R_mono HO_9.out (fun k_ hk => (⟨hk, hk.2⟩ : _ ∧ k_ ≠ gb327))) (fun _ hk => hk.2) (.int .i64 ((rd_T40 t316 x79_4).f0))) (fun _ hk => hk.2) (.string ((rd_T40 t316 x79_4).f1))) (fun _ h_ => h_.1))) hb); replace HO_77 := Aside0.mk (Kd.R_below (by refine R1_ ?_; exact (Kd.R_mono (Kd.R_far (p := ⟨gb327, 1, none⟩) (Kd.R_far (p := ⟨gb327, 0, none⟩) (Kd.R_mono HO_77.out (fun k_ hk => (⟨hk, hk.2⟩ : _ ∧ k_ ≠ gb327))) (fun _ hk => hk.2) (.int .i64 ((rd_T40 t316 x79_4).f0))) (fun _ hk => hk.2) (.string ((rd_T40 t316 x79_4).f1))) (fun _ h_ => h_.1))) hb); have HO330 := Aside0.mk (Kd.R_lower ho92 (below_size W2_)); replace BK305 := Aside0.mk (blk_below (g := gb305) (o := .cells #[.slice A0_0 l0_0.length c0_0] 24 (0, 0)) (G1_ BK305.out) hb); replace BK306 := Aside0.mk (blk_below (g := gb306) (o := .cells #[.slice A1_0 l1_0.length c1_0] 24 (0, 0)) (G1_ BK306.out) hb); replace BK327 := Aside0.mk (blk_below (g := gb327) (o := .cells #[.int .i64 ((rd_T40 t316 x79_4).f0), .string ((rd_T40 t316 x79_4).f1)] 40 (0, 0)) (G1_ BK327.out) hb); replace HB := y2_ hb; clear hb ho92; obtain ⟨z93_0, z93_1, y93_0, y93_1⟩ := cz2_ BK327.out; obtain ⟨Ao94, co94, eo94⟩ := Kd.R_slice HO330.out; subst eo94; have p331 : 0 ≤ (((rd_T40 t316 x79_4).f0) : Int) := oA_; have q331 : ((rd_T40 t316 x79_4).f0) < (y328.length : Int) := oA_; obtain ⟨ad331, e331, hx331_0⟩ := Kd.at_int (Kd.R_reads' HO330.out).2.2 ((rd_T40 t316 x79_4).f0) p331 q331; cases e331; replace p331 := eq_true p331; replace q331 := eq_true q331; obtain ⟨Ao95, co95, eo95⟩ := Kd.R_slice HO_9.out; subst eo95; have p332 : 0 ≤ (x79_4 : Int) := oA_; have q332 : x79_4 < (t320.length : Int) := oA_; obtain ⟨ad332, e332, hx332_0, hx332_1⟩ := at_T40 (Kd.R_reads' HO_9.out).2.2 x79_4 p332 q332; cases e332; replace p332 := eq_true p332; replace q332 := eq_true q332; have p333 : 0 ≤ (x79_4 : Int) := oA_; have q333 : x79_4 < (t320.length : Int) := oA_; obtain ⟨ad333, e333, hx333_0, hx333_1⟩ := at_T40 (Kd.R_reads' HO_9.out).2.2 x79_4 p333 q333; obtain rfl : ad332 = ad333 := (by injection e333); replace p333 := eq_true p333; replace q333 := eq_true q333; have p334 : 0 ≤ ((ji83) : Int) := oA_; have q334 : (ji83) < (t316.length : Int) := oA_; obtain ⟨ad334, e334, hx334_0, hx334_1⟩ := at_T40 (Kd.R_reads' HO_7.out).2.2 (ji83) p334 q334; obtain rfl : ad326 = ad334 := (by injection e334); replace p334 := eq_true p334; replace q334 := eq_true q334)); try go_wp2_with (first | ((with_reducible refine gate_dst (N := 14) rfl ?_); (try (refine gate_guard (by rfl) ?_; dsimp only)); refine box_event ?hg (N := 14) ?hd (cs := #[.int .i64 0, .string (⟨#[]⟩ : ByteArray)]) (t := 40) ?hr ?_; (case hd | hg => rfl); (case hr => exact S1_); intro gb327 hg w87 hbox hb; have BK327 := Aside0.mk (hbox); have GW327 := Aside0.mk ((Z2_ : w.heap.size ≤ gb327)); have GE327 := Aside0.mk ((Z2_ : w.heap.size ≤ gb327)); have NB305_327 := Aside0.mk ((by rw [hg]; exact Nat.ne_of_lt (blk_lt (B1_ BK305.out)) : gb305 ≠ gb327)); have NB327_305 := Aside0.mk ((by rw [hg]; exact Nat.ne_of_gt (blk_lt (B1_ BK305.out)) : gb327 ≠ gb305)); have NB306_327 := Aside0.mk ((by rw [hg]; exact Nat.ne_of_lt (blk_lt (B1_ BK306.out)) : gb306 ≠ gb327)); have NB327_306 := Aside0.mk ((by rw [hg]; exact Nat.ne_of_gt (blk_lt (B1_ BK306.out)) : gb327 ≠ gb306)); replace HO_7 := Aside0.mk (Kd.R_below (Kd.R_elderB (R1_ HO_7.out) gb327 (Nat.le_of_eq hg.symm)) hb); replace HO_9 := Aside0.mk (Kd.R_below (Kd.R_elderB (R1_ HO_9.out) gb327 (Nat.le_of_eq hg.symm)) hb); replace HO_77 := Aside0.mk (Kd.R_below (Kd.R_elderB (R1_ HO_77.out) gb327 (Nat.le_of_eq hg.symm)) hb); replace BK305 := yB_ BK305 hb; replace BK306 := yB_ BK306 hb; replace HB := y2_ hb; clear hb hbox hg; have hnb88 := NB327_305.out; have hnc88 := NB305_327.out; have hnb89 := NB327_306.out; have hnc89 := NB306_327.out; obtain ⟨z90_0, z90_1, y90_0, y90_1⟩ := cz2_ BK327.out) | ((with_reducible refine gate_dst (N := 84) rfl ?_); (try (refine gate_guard (by rfl) ?_; dsimp only)); refine Kd.R_lit (Kd.int .i64) _ 3 ?hg (N := 84) ?hd (xs := ([0, 1, 3, 2] : List Int)) (inner := [.int .i64 0, .int .i64 1, .int .i64 3, .int .i64 2]) (ok := fun _ => True) (okp := fun _ => True) ?hr ?hp (fun _ hk => hk) trivial (Below.refl _ _) (Nat.le_refl _) (by simp) ?_; (case hd | hg => rfl); (case hr => exact S1_); (case hp => exact (Reps.one (show Kd.M (Kd.int .i64) _ _ _ 0 [.int .i64 0] from rfl) (Reps.one (show Kd.M (Kd.int .i64) _ _ _ 1 [.int .i64 1] from rfl) (Reps.one (show Kd.M (Kd.int .i64) _ _ _ 3 [.int .i64 3] from rfl) (Reps.one (show Kd.M (Kd.int .i64) _ _ _ 2 [.int .i64 2] from rfl) (Reps.none _ _)))))); intro v329 w91 ho92 hb hg_ hnew_; clear hg_ hnew_; (first | rw [← Ny328.out] at ho92 | (simp only [Int.reduceToNat] at ho92; rw [← Ny328.out] at ho92)); replace HO_7 := Aside0.mk (Kd.R_below (by refine R1_ ?_; exact (Kd.R_mono (Kd.R_far (p := ⟨gb327, 1, none⟩) (Kd.R_far (p := ⟨gb327, 0, none⟩) (Kd.R_mono HO_7.out (fun k_ hk => (⟨hk, hk.2⟩ : _ ∧ k_ ≠ gb327))) (fun _ hk => hk.2) (.int .i64 ((rd_T40 t316 x79_4).f0))) (fun _ hk => hk.2) (.string ((rd_T40 t316 x79_4).f1))) (fun _ h_ => h_.1))) hb); replace HO_9 := Aside0.mk (Kd.R_below (by refine R1_ ?_; exact (Kd.R_mono (Kd.R_far (p := ⟨gb327, 1, none⟩) (Kd.R_far (p := ⟨gb327, 0, none⟩) (Kd.R_mono HO_9.out (fun k_ hk => (⟨hk, hk.2⟩ : _ ∧ k_ ≠ gb327))) (fun _ hk => hk.2) (.int .i64 ((rd_T40 t316 x79_4).f0))) (fun _ hk => hk.2) (.string ((rd_T40 t316 x79_4).f1))) (fun _ h_ => h_.1))) hb); replace HO_77 := Aside0.mk (Kd.R_below (by refine R1_ ?_; exact (Kd.R_mono (Kd.R_far (p := ⟨gb327, 1, none⟩) (Kd.R_far (p := ⟨gb327, 0, none⟩) (Kd.R_mono HO_77.out (fun k_ hk => (⟨hk, hk.2⟩ : _ ∧ k_ ≠ gb327))) (fun _ hk => hk.2) (.int .i64 ((rd_T40 t316 x79_4).f0))) (fun _ hk => hk.2) (.string ((rd_T40 t316 x79_4).f1))) (fun _ h_ => h_.1))) hb); have HO330 := Aside0.mk (Kd.R_lower ho92 (below_size W2_)); replace BK305 := Aside0.mk (blk_below (g := gb305) (o := .cells #[.slice A0_0 l0_0.length c0_0] 24 (0, 0)) (G1_ BK305.out) hb); replace BK306 := Aside0.mk (blk_below (g := gb306) (o := .cells #[.slice A1_0 l1_0.length c1_0] 24 (0, 0)) (G1_ BK306.out) hb); replace BK327 := Aside0.mk (blk_below (g := gb327) (o := .cells #[.int .i64 ((rd_T40 t316 x79_4).f0), .string ((rd_T40 t316 x79_4).f1)] 40 (0, 0)) (G1_ BK327.out) hb); replace HB := y2_ hb; clear hb ho92; obtain ⟨z93_0, z93_1, y93_0, y93_1⟩ := cz2_ BK327.out; obtain ⟨Ao94, co94, eo94⟩ := Kd.R_slice HO330.out; subst eo94; have p331 : 0 ≤ (((rd_T40 t316 x79_4).f0) : Int) := oA_; have q331 : ((rd_T40 t316 x79_4).f0) < (y328.length : Int) := oA_; obtain ⟨ad331, e331, hx331_0⟩ := Kd.at_int (Kd.R_reads' HO330.out).2.2 ((rd_T40 t316 x79_4).f0) p331 q331; cases e331; replace p331 := eq_true p331; replace q331 := eq_true q331; obtain ⟨Ao95, co95, eo95⟩ := Kd.R_slice HO_9.out; subst eo95; have p332 : 0 ≤ (x79_4 : Int) := oA_; have q332 : x79_4 < (t320.length : Int) := oA_; obtain ⟨ad332, e332, hx332_0, hx332_1⟩ := at_T40 (Kd.R_reads' HO_9.out).2.2 x79_4 p332 q332; cases e332; replace p332 := eq_true p332; replace q332 := eq_true q332; have p333 : 0 ≤ (x79_4 : Int) := oA_; have q333 : x79_4 < (t320.length : Int) := oA_; obtain ⟨ad333, e333, hx333_0, hx333_1⟩ := at_T40 (Kd.R_reads' HO_9.out).2.2 x79_4 p333 q333; obtain rfl : ad332 = ad333 := (by injection e333); replace p333 := eq_true p333; replace q333 := eq_true q333; have p334 : 0 ≤ ((ji83) : Int) := oA_; have q334 : (ji83) < (t316.length : Int) := oA_; obtain ⟨ad334, e334, hx334_0, hx334_1⟩ := at_T40 (Kd.R_reads' HO_7.out).2.2 (ji83) p334 q334; obtain rfl : ad326 = ad334 := (by injection e334); replace p334 := eq_true p334; replace q334 := eq_true q334)))
                         go_roundg k4
                         case measure => have := HJ4.out; have := HJ43.out; have := HK3.out; have := HK4.out; omega
                         case rel => exact ⟨(wrap64 (x79_4 + 1)), E3_, H', ⟨by have := HJ4.out; have := HJ43.out; have := HK3.out; have := HK4.out; omega⟩, ⟨by refine R1_ ?_; exact Kd.R_mono HO_7.out (fun _ hk => hk.1)⟩, ⟨by refine R1_ ?_; exact Kd.R_mono HO_9.out (fun _ hk => by first | exact ⟨hk.1.1, hk.1.2⟩ | simp_all)⟩, ⟨by refine R1_ ?_; exact Kd.R_mono HO_77.out (fun _ hk => hk.1)⟩, ⟨B1_ BK305.out⟩, ⟨B1_ BK306.out⟩, ⟨W2_⟩⟩
                        ·
                         rw [if_neg c86] at H
                         exact absurd H (by simp)
                       ·
                        rw [if_neg c85] at H
                        exact absurd H (by simp)
                      ·
                       rw [if_neg c84] at H
                       exact absurd H (by simp)
                     ·
                      rw [if_neg c82] at H
                      have c82b0 : decide (0 < x79_4) = false := decide_eq_false c82
                      clear c82
                      have H' := Aside0.mk H
                      clear H
                      have p326 : 0 ≤ (x79_4 : Int) := oA_
                      have q326 : x79_4 < (t316.length : Int) := oA_
                      obtain ⟨ad326, e326, hx326_0, hx326_1⟩ := at_T40 (Kd.R_reads' HO_77.out).2.2 x79_4 p326 q326
                      cases e326
                      replace p326 := eq_true p326
                      replace q326 := eq_true q326
                      go_wp2_with (first | ((with_reducible refine gate_dst (N := 14) rfl ?_); (try (refine gate_guard (by rfl) ?_; dsimp only)); refine box_event ?hg (N := 14) ?hd (cs := #[.int .i64 0, .string (⟨#[]⟩ : ByteArray)]) (t := 40) ?hr ?_; (case hd | hg => rfl); (case hr => exact S1_); intro gb327 hg w96 hbox hb; have BK327 := Aside0.mk (hbox); have GW327 := Aside0.mk ((Z2_ : w.heap.size ≤ gb327)); have GE327 := Aside0.mk ((Z2_ : w.heap.size ≤ gb327)); have NB305_327 := Aside0.mk ((by rw [hg]; exact Nat.ne_of_lt (blk_lt (B1_ BK305.out)) : gb305 ≠ gb327)); have NB327_305 := Aside0.mk ((by rw [hg]; exact Nat.ne_of_gt (blk_lt (B1_ BK305.out)) : gb327 ≠ gb305)); have NB306_327 := Aside0.mk ((by rw [hg]; exact Nat.ne_of_lt (blk_lt (B1_ BK306.out)) : gb306 ≠ gb327)); have NB327_306 := Aside0.mk ((by rw [hg]; exact Nat.ne_of_gt (blk_lt (B1_ BK306.out)) : gb327 ≠ gb306)); replace HO_7 := Aside0.mk (Kd.R_below (Kd.R_elderB (R1_ HO_7.out) gb327 (Nat.le_of_eq hg.symm)) hb); replace HO_9 := Aside0.mk (Kd.R_below (Kd.R_elderB (R1_ HO_9.out) gb327 (Nat.le_of_eq hg.symm)) hb); replace HO_77 := Aside0.mk (Kd.R_below (Kd.R_elderB (R1_ HO_77.out) gb327 (Nat.le_of_eq hg.symm)) hb); replace BK305 := yB_ BK305 hb; replace BK306 := yB_ BK306 hb; replace HB := y2_ hb; clear hb hbox hg; have hnb97 := NB327_305.out; have hnc97 := NB305_327.out; have hnb98 := NB327_306.out; have hnc98 := NB306_327.out; obtain ⟨z99_0, z99_1, y99_0, y99_1⟩ := cz2_ BK327.out) | ((with_reducible refine gate_dst (N := 84) rfl ?_); (try (refine gate_guard (by rfl) ?_; dsimp only)); refine Kd.R_lit (Kd.int .i64) _ 3 ?hg (N := 84) ?hd (xs := ([0, 1, 3, 2] : List Int)) (inner := [.int .i64 0, .int .i64 1, .int .i64 3, .int .i64 2]) (ok := fun _ => True) (okp := fun _ => True) ?hr ?hp (fun _ hk => hk) trivial (Below.refl _ _) (Nat.le_refl _) (by simp) ?_; (case hd | hg => rfl); (case hr => exact S1_); (case hp => exact (Reps.one (show Kd.M (Kd.int .i64) _ _ _ 0 [.int .i64 0] from rfl) (Reps.one (show Kd.M (Kd.int .i64) _ _ _ 1 [.int .i64 1] from rfl) (Reps.one (show Kd.M (Kd.int .i64) _ _ _ 3 [.int .i64 3] from rfl) (Reps.one (show Kd.M (Kd.int .i64) _ _ _ 2 [.int .i64 2] from rfl) (Reps.none _ _)))))); intro v329 w100 ho101 hb hg_ hnew_; clear hg_ hnew_; (first | rw [← Ny328.out] at ho101 | (simp only [Int.reduceToNat] at ho101; rw [← Ny328.out] at ho101)); replace HO_7 := Aside0.mk (Kd.R_below (by refine R1_ ?_; exact (Kd.R_mono (Kd.R_far (p := ⟨gb327, 1, none⟩) (Kd.R_far (p := ⟨gb327, 0, none⟩) (Kd.R_mono HO_7.out (fun k_ hk => (⟨hk, hk.2⟩ : _ ∧ k_ ≠ gb327))) (fun _ hk => hk.2) (.int .i64 ((rd_T40 t316 x79_4).f0))) (fun _ hk => hk.2) (.string ((rd_T40 t316 x79_4).f1))) (fun _ h_ => h_.1))) hb); replace HO_9 := Aside0.mk (Kd.R_below (by refine R1_ ?_; exact (Kd.R_mono (Kd.R_far (p := ⟨gb327, 1, none⟩) (Kd.R_far (p := ⟨gb327, 0, none⟩) (Kd.R_mono HO_9.out (fun k_ hk => (⟨hk, hk.2⟩ : _ ∧ k_ ≠ gb327))) (fun _ hk => hk.2) (.int .i64 ((rd_T40 t316 x79_4).f0))) (fun _ hk => hk.2) (.string ((rd_T40 t316 x79_4).f1))) (fun _ h_ => h_.1))) hb); replace HO_77 := Aside0.mk (Kd.R_below (by refine R1_ ?_; exact (Kd.R_mono (Kd.R_far (p := ⟨gb327, 1, none⟩) (Kd.R_far (p := ⟨gb327, 0, none⟩) (Kd.R_mono HO_77.out (fun k_ hk => (⟨hk, hk.2⟩ : _ ∧ k_ ≠ gb327))) (fun _ hk => hk.2) (.int .i64 ((rd_T40 t316 x79_4).f0))) (fun _ hk => hk.2) (.string ((rd_T40 t316 x79_4).f1))) (fun _ h_ => h_.1))) hb); have HO330 := Aside0.mk (Kd.R_lower ho101 (below_size W2_)); replace BK305 := Aside0.mk (blk_below (g := gb305) (o := .cells #[.slice A0_0 l0_0.length c0_0] 24 (0, 0)) (G1_ BK305.out) hb); replace BK306 := Aside0.mk (blk_below (g := gb306) (o := .cells #[.slice A1_0 l1_0.length c1_0] 24 (0, 0)) (G1_ BK306.out) hb); replace BK327 := Aside0.mk (blk_below (g := gb327) (o := .cells #[.int .i64 ((rd_T40 t316 x79_4).f0), .string ((rd_T40 t316 x79_4).f1)] 40 (0, 0)) (G1_ BK327.out) hb); replace HB := y2_ hb; clear hb ho101; obtain ⟨z102_0, z102_1, y102_0, y102_1⟩ := cz2_ BK327.out; obtain ⟨Ao103, co103, eo103⟩ := Kd.R_slice HO330.out; subst eo103; have p331 : 0 ≤ (((rd_T40 t316 x79_4).f0) : Int) := oA_; have q331 : ((rd_T40 t316 x79_4).f0) < (y328.length : Int) := oA_; obtain ⟨ad331, e331, hx331_0⟩ := Kd.at_int (Kd.R_reads' HO330.out).2.2 ((rd_T40 t316 x79_4).f0) p331 q331; cases e331; replace p331 := eq_true p331; replace q331 := eq_true q331; obtain ⟨Ao104, co104, eo104⟩ := Kd.R_slice HO_9.out; subst eo104; have p332 : 0 ≤ (x79_4 : Int) := oA_; have q332 : x79_4 < (t320.length : Int) := oA_; obtain ⟨ad332, e332, hx332_0, hx332_1⟩ := at_T40 (Kd.R_reads' HO_9.out).2.2 x79_4 p332 q332; cases e332; replace p332 := eq_true p332; replace q332 := eq_true q332; have p333 : 0 ≤ (x79_4 : Int) := oA_; have q333 : x79_4 < (t320.length : Int) := oA_; obtain ⟨ad333, e333, hx333_0, hx333_1⟩ := at_T40 (Kd.R_reads' HO_9.out).2.2 x79_4 p333 q333; obtain rfl : ad332 = ad333 := (by injection e333); replace p333 := eq_true p333; replace q333 := eq_true q333))
                      repeat (go_quiet (first | ((with_reducible refine gate_dst (N := 14) rfl ?_); (try (refine gate_guard (by rfl) ?_; dsimp only)); refine box_event ?hg (N := 14) ?hd (cs := #[.int .i64 0, .string (⟨#[]⟩ : ByteArray)]) (t := 40) ?hr ?_; (case hd | hg => rfl); (case hr => exact S1_); intro gb327 hg w96 hbox hb; have BK327 := Aside0.mk (hbox); have GW327 := Aside0.mk ((Z2_ : w.heap.size ≤ gb327)); have GE327 := Aside0.mk ((Z2_ : w.heap.size ≤ gb327)); have NB305_327 := Aside0.mk ((by rw [hg]; exact Nat.ne_of_lt (blk_lt (B1_ BK305.out)) : gb305 ≠ gb327)); have NB327_305 := Aside0.mk ((by rw [hg]; exact Nat.ne_of_gt (blk_lt (B1_ BK305.out)) : gb327 ≠ gb305)); have NB306_327 := Aside0.mk ((by rw [hg]; exact Nat.ne_of_lt (blk_lt (B1_ BK306.out)) : gb306 ≠ gb327)); have NB327_306 := Aside0.mk ((by rw [hg]; exact Nat.ne_of_gt (blk_lt (B1_ BK306.out)) : gb327 ≠ gb306)); replace HO_7 := Aside0.mk (Kd.R_below (Kd.R_elderB (R1_ HO_7.out) gb327 (Nat.le_of_eq hg.symm)) hb); replace HO_9 := Aside0.mk (Kd.R_below (Kd.R_elderB (R1_ HO_9.out) gb327 (Nat.le_of_eq hg.symm)) hb); replace HO_77 := Aside0.mk (Kd.R_below (Kd.R_elderB (R1_ HO_77.out) gb327 (Nat.le_of_eq hg.symm)) hb); replace BK305 := yB_ BK305 hb; replace BK306 := yB_ BK306 hb; replace HB := y2_ hb; clear hb hbox hg; have hnb97 := NB327_305.out; have hnc97 := NB305_327.out; have hnb98 := NB327_306.out; have hnc98 := NB306_327.out; obtain ⟨z99_0, z99_1, y99_0, y99_1⟩ := cz2_ BK327.out) | ((with_reducible refine gate_dst (N := 84) rfl ?_); (try (refine gate_guard (by rfl) ?_; dsimp only)); refine Kd.R_lit (Kd.int .i64) _ 3 ?hg (N := 84) ?hd (xs := ([0, 1, 3, 2] : List Int)) (inner := [.int .i64 0, .int .i64 1, .int .i64 3, .int .i64 2]) (ok := fun _ => True) (okp := fun _ => True) ?hr ?hp (fun _ hk => hk) trivial (Below.refl _ _) (Nat.le_refl _) (by simp) ?_; (case hd | hg => rfl); (case hr => exact S1_); (case hp => exact (Reps.one (show Kd.M (Kd.int .i64) _ _ _ 0 [.int .i64 0] from rfl) (Reps.one (show Kd.M (Kd.int .i64) _ _ _ 1 [.int .i64 1] from rfl) (Reps.one (show Kd.M (Kd.int .i64) _ _ _ 3 [.int .i64 3] from rfl) (Reps.one (show Kd.M (Kd.int .i64) _ _ _ 2 [.int .i64 2] from rfl) (Reps.none _ _)))))); intro v329 w100 ho101 hb hg_ hnew_; clear hg_ hnew_; (first | rw [← Ny328.out] at ho101 | (simp only [Int.reduceToNat] at ho101; rw [← Ny328.out] at ho101)); replace HO_7 := Aside0.mk (Kd.R_below (by refine R1_ ?_; exact (Kd.R_mono (Kd.R_far (p := ⟨gb327, 1, none⟩) (Kd.R_far (p := ⟨gb327, 0, none⟩) (Kd.R_mono HO_7.out (fun k_ hk => (⟨hk, hk.2⟩ : _ ∧ k_ ≠ gb327))) (fun _ hk => hk.2) (.int .i64 ((rd_T40 t316 x79_4).f0))) (fun _ hk => hk.2) (.string ((rd_T40 t316 x79_4).f1))) (fun _ h_ => h_.1))) hb); replace HO_9 := Aside0.mk (Kd.R_below (by refine R1_ ?_; exact (Kd.R_mono (Kd.R_far (p := ⟨gb327, 1, none⟩) (Kd.R_far (p := ⟨gb327, 0, none⟩) (Kd.R_mono HO_9.out (fun k_ hk => (⟨hk, hk.2⟩ : _ ∧ k_ ≠ gb327))) (fun _ hk => hk.2) (.int .i64 ((rd_T40 t316 x79_4).f0))) (fun _ hk => hk.2) (.string ((rd_T40 t316 x79_4).f1))) (fun _ h_ => h_.1))) hb); replace HO_77 := Aside0.mk (Kd.R_below (by refine R1_ ?_; exact (Kd.R_mono (Kd.R_far (p := ⟨gb327, 1, none⟩) (Kd.R_far (p := ⟨gb327, 0, none⟩) (Kd.R_mono HO_77.out (fun k_ hk => (⟨hk, hk.2⟩ : _ ∧ k_ ≠ gb327))) (fun _ hk => hk.2) (.int .i64 ((rd_T40 t316 x79_4).f0))) (fun _ hk => hk.2) (.string ((rd_T40 t316 x79_4).f1))) (fun _ h_ => h_.1))) hb); have HO330 := Aside0.mk (Kd.R_lower ho101 (below_size W2_)); replace BK305 := Aside0.mk (blk_below (g := gb305) (o := .cells #[.slice A0_0 l0_0.length c0_0] 24 (0, 0)) (G1_ BK305.out) hb); replace BK306 := Aside0.mk (blk_below (g := gb306) (o := .cells #[.slice A1_0 l1_0.length c1_0] 24 (0, 0)) (G1_ BK306.out) hb); replace BK327 := Aside0.mk (blk_below (g := gb327) (o := .cells #[.int .i64 ((rd_T40 t316 x79_4).f0), .string ((rd_T40 t316 x79_4).f1)] 40 (0, 0)) (G1_ BK327.out) hb); replace HB := y2_ hb; clear hb ho101; obtain ⟨z102_0, z102_1, y102_0, y102_1⟩ := cz2_ BK327.out; obtain ⟨Ao103, co103, eo103⟩ := Kd.R_slice HO330.out; subst eo103; have p331 : 0 ≤ (((rd_T40 t316 x79_4).f0) : Int) := oA_; have q331 : ((rd_T40 t316 x79_4).f0) < (y328.length : Int) := oA_; obtain ⟨ad331, e331, hx331_0⟩ := Kd.at_int (Kd.R_reads' HO330.out).2.2 ((rd_T40 t316 x79_4).f0) p331 q331; cases e331; replace p331 := eq_true p331; replace q331 := eq_true q331; obtain ⟨Ao104, co104, eo104⟩ := Kd.R_slice HO_9.out; subst eo104; have p332 : 0 ≤ (x79_4 : Int) := oA_; have q332 : x79_4 < (t320.length : Int) := oA_; obtain ⟨ad332, e332, hx332_0, hx332_1⟩ := at_T40 (Kd.R_reads' HO_9.out).2.2 x79_4 p332 q332; cases e332; replace p332 := eq_true p332; replace q332 := eq_true q332; have p333 : 0 ≤ (x79_4 : Int) := oA_; have q333 : x79_4 < (t320.length : Int) := oA_; obtain ⟨ad333, e333, hx333_0, hx333_1⟩ := at_T40 (Kd.R_reads' HO_9.out).2.2 x79_4 p333 q333; obtain rfl : ad332 = ad333 := (by injection e333); replace p333 := eq_true p333; replace q333 := eq_true q333)); try go_wp2_with (first | ((with_reducible refine gate_dst (N := 14) rfl ?_); (try (refine gate_guard (by rfl) ?_; dsimp only)); refine box_event ?hg (N := 14) ?hd (cs := #[.int .i64 0, .string (⟨#[]⟩ : ByteArray)]) (t := 40) ?hr ?_; (case hd | hg => rfl); (case hr => exact S1_); intro gb327 hg w96 hbox hb; have BK327 := Aside0.mk (hbox); have GW327 := Aside0.mk ((Z2_ : w.heap.size ≤ gb327)); have GE327 := Aside0.mk ((Z2_ : w.heap.size ≤ gb327)); have NB305_327 := Aside0.mk ((by rw [hg]; exact Nat.ne_of_lt (blk_lt (B1_ BK305.out)) : gb305 ≠ gb327)); have NB327_305 := Aside0.mk ((by rw [hg]; exact Nat.ne_of_gt (blk_lt (B1_ BK305.out)) : gb327 ≠ gb305)); have NB306_327 := Aside0.mk ((by rw [hg]; exact Nat.ne_of_lt (blk_lt (B1_ BK306.out)) : gb306 ≠ gb327)); have NB327_306 := Aside0.mk ((by rw [hg]; exact Nat.ne_of_gt (blk_lt (B1_ BK306.out)) : gb327 ≠ gb306)); replace HO_7 := Aside0.mk (Kd.R_below (Kd.R_elderB (R1_ HO_7.out) gb327 (Nat.le_of_eq hg.symm)) hb); replace HO_9 := Aside0.mk (Kd.R_below (Kd.R_elderB (R1_ HO_9.out) gb327 (Nat.le_of_eq hg.symm)) hb); replace HO_77 := Aside0.mk (Kd.R_below (Kd.R_elderB (R1_ HO_77.out) gb327 (Nat.le_of_eq hg.symm)) hb); replace BK305 := yB_ BK305 hb; replace BK306 := yB_ BK306 hb; replace HB := y2_ hb; clear hb hbox hg; have hnb97 := NB327_305.out; have hnc97 := NB305_327.out; have hnb98 := NB327_306.out; have hnc98 := NB306_327.out; obtain ⟨z99_0, z99_1, y99_0, y99_1⟩ := cz2_ BK327.out) | ((with_reducible refine gate_dst (N := 84) rfl ?_); (try (refine gate_guard (by rfl) ?_; dsimp only)); refine Kd.R_lit (Kd.int .i64) _ 3 ?hg (N := 84) ?hd (xs := ([0, 1, 3, 2] : List Int)) (inner := [.int .i64 0, .int .i64 1, .int .i64 3, .int .i64 2]) (ok := fun _ => True) (okp := fun _ => True) ?hr ?hp (fun _ hk => hk) trivial (Below.refl _ _) (Nat.le_refl _) (by simp) ?_; (case hd | hg => rfl); (case hr => exact S1_); (case hp => exact (Reps.one (show Kd.M (Kd.int .i64) _ _ _ 0 [.int .i64 0] from rfl) (Reps.one (show Kd.M (Kd.int .i64) _ _ _ 1 [.int .i64 1] from rfl) (Reps.one (show Kd.M (Kd.int .i64) _ _ _ 3 [.int .i64 3] from rfl) (Reps.one (show Kd.M (Kd.int .i64) _ _ _ 2 [.int .i64 2] from rfl) (Reps.none _ _)))))); intro v329 w100 ho101 hb hg_ hnew_; clear hg_ hnew_; (first | rw [← Ny328.out] at ho101 | (simp only [Int.reduceToNat] at ho101; rw [← Ny328.out] at ho101)); replace HO_7 := Aside0.mk (Kd.R_below (by refine R1_ ?_; exact (Kd.R_mono (Kd.R_far (p := ⟨gb327, 1, none⟩) (Kd.R_far (p := ⟨gb327, 0, none⟩) (Kd.R_mono HO_7.out (fun k_ hk => (⟨hk, hk.2⟩ : _ ∧ k_ ≠ gb327))) (fun _ hk => hk.2) (.int .i64 ((rd_T40 t316 x79_4).f0))) (fun _ hk => hk.2) (.string ((rd_T40 t316 x79_4).f1))) (fun _ h_ => h_.1))) hb); replace HO_9 := Aside0.mk (Kd.R_below (by refine R1_ ?_; exact (Kd.R_mono (Kd.R_far (p := ⟨gb327, 1, none⟩) (Kd.R_far (p := ⟨gb327, 0, none⟩) (Kd.R_mono HO_9.out (fun k_ hk => (⟨hk, hk.2⟩ : _ ∧ k_ ≠ gb327))) (fun _ hk => hk.2) (.int .i64 ((rd_T40 t316 x79_4).f0))) (fun _ hk => hk.2) (.string ((rd_T40 t316 x79_4).f1))) (fun _ h_ => h_.1))) hb); replace HO_77 := Aside0.mk (Kd.R_below (by refine R1_ ?_; exact (Kd.R_mono (Kd.R_far (p := ⟨gb327, 1, none⟩) (Kd.R_far (p := ⟨gb327, 0, none⟩) (Kd.R_mono HO_77.out (fun k_ hk => (⟨hk, hk.2⟩ : _ ∧ k_ ≠ gb327))) (fun _ hk => hk.2) (.int .i64 ((rd_T40 t316 x79_4).f0))) (fun _ hk => hk.2) (.string ((rd_T40 t316 x79_4).f1))) (fun _ h_ => h_.1))) hb); have HO330 := Aside0.mk (Kd.R_lower ho101 (below_size W2_)); replace BK305 := Aside0.mk (blk_below (g := gb305) (o := .cells #[.slice A0_0 l0_0.length c0_0] 24 (0, 0)) (G1_ BK305.out) hb); replace BK306 := Aside0.mk (blk_below (g := gb306) (o := .cells #[.slice A1_0 l1_0.length c1_0] 24 (0, 0)) (G1_ BK306.out) hb); replace BK327 := Aside0.mk (blk_below (g := gb327) (o := .cells #[.int .i64 ((rd_T40 t316 x79_4).f0), .string ((rd_T40 t316 x79_4).f1)] 40 (0, 0)) (G1_ BK327.out) hb); replace HB := y2_ hb; clear hb ho101; obtain ⟨z102_0, z102_1, y102_0, y102_1⟩ := cz2_ BK327.out; obtain ⟨Ao103, co103, eo103⟩ := Kd.R_slice HO330.out; subst eo103; have p331 : 0 ≤ (((rd_T40 t316 x79_4).f0) : Int) := oA_; have q331 : ((rd_T40 t316 x79_4).f0) < (y328.length : Int) := oA_; obtain ⟨ad331, e331, hx331_0⟩ := Kd.at_int (Kd.R_reads' HO330.out).2.2 ((rd_T40 t316 x79_4).f0) p331 q331; cases e331; replace p331 := eq_true p331; replace q331 := eq_true q331; obtain ⟨Ao104, co104, eo104⟩ := Kd.R_slice HO_9.out; subst eo104; have p332 : 0 ≤ (x79_4 : Int) := oA_; have q332 : x79_4 < (t320.length : Int) := oA_; obtain ⟨ad332, e332, hx332_0, hx332_1⟩ := at_T40 (Kd.R_reads' HO_9.out).2.2 x79_4 p332 q332; cases e332; replace p332 := eq_true p332; replace q332 := eq_true q332; have p333 : 0 ≤ (x79_4 : Int) := oA_; have q333 : x79_4 < (t320.length : Int) := oA_; obtain ⟨ad333, e333, hx333_0, hx333_1⟩ := at_T40 (Kd.R_reads' HO_9.out).2.2 x79_4 p333 q333; obtain rfl : ad332 = ad333 := (by injection e333); replace p333 := eq_true p333; replace q333 := eq_true q333)))
                      go_roundg k4
                      case measure => have := HJ4.out; have := HJ43.out; have := HK3.out; have := HK4.out; omega
                      case rel => exact ⟨(wrap64 (x79_4 + 1)), E3_, H', ⟨by have := HJ4.out; have := HJ43.out; have := HK3.out; have := HK4.out; omega⟩, ⟨by refine R1_ ?_; exact Kd.R_mono HO_7.out (fun _ hk => hk.1)⟩, ⟨by refine R1_ ?_; exact Kd.R_mono HO_9.out (fun _ hk => by first | exact ⟨hk.1.1, hk.1.2⟩ | simp_all)⟩, ⟨by refine R1_ ?_; exact Kd.R_mono HO_77.out (fun _ hk => hk.1)⟩, ⟨B1_ BK305.out⟩, ⟨B1_ BK306.out⟩, ⟨W2_⟩⟩
                    ·
                     rw [if_neg c81] at H
                     exact absurd H (by simp)
                   ·
                    rw [if_neg c80] at H
                    exact absurd H (by simp)
                  ·
                   rw [if_neg c79] at H
                   exact absurd H (by simp)
                 ·
                  rw [if_neg c78] at H
                  exact absurd H (by simp)
                ·
                 rw [if_neg c77] at H
                 exact absurd H (by simp)
               ·
                rw [if_neg c76] at H
                exact absurd H (by simp)
              ·
               rw [if_neg c75] at H
               exact absurd H (by simp)
             ·
              rw [if_neg c74] at H
              have c74b0 : decide (x79_4 < (t316.length : Int)) = false := decide_eq_false c74
              clear c74
              obtain rfl := Option.some.inj H
              go_wp2
              repeat (go_quiet (fail); try go_wp2)
              go_ret
              exact ⟨E1_, W2_⟩
 ·
  replace c4 := Bool.eq_false_iff.mpr c4
  subst c4
  rw [if_neg (show ¬ (false = true) by decide)] at H
  exact absurd H (by simp)

end Go.Proofs.YtlncpbnadlpihaaGreatDoor.PAll
