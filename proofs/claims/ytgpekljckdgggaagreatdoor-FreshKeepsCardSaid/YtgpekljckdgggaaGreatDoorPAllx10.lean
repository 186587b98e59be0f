import Derived.Test.YtgpekljckdgggaaGreatDoorPAllx0
namespace Go.Proofs.YtgpekljckdgggaaGreatDoor.PAll
open Go.RowKit Go.Proofs.YtgpekljckdgggaaGreatDoorW.PrintWords Go.Proofs.YtgpekljckdgggaaGreatDoorW.PrintLast Go.Proofs.YtgpekljckdgggaaGreatDoorW.PrintMore
attribute [local go_sem] max2_int min2_int max_two min_two max_three min_three max_four min_four   -- for this text's walks alone
set_option linter.unusedVariables false
set_option linter.unusedSimpArgs false

/-! ### fresh_may: function 41 -/
mutual
def fresh_may.j0 : Nat → Int → Int → Bool → Bool → Bool → Bool → Bool → Bool → Bool → Int → Int → Int → Int → Bool → Bool → Bool → Bool → Bool → Bool → Int → Int → Int → Int → Option (Bool)
 | 0, _, _, _, _, _, _, _, _, _, _, _, _, _, _, _, _, _, _, _, _, _, _, _ => none
 | k + 1, x2, x3, x9, x226000, x226001, x226002, x226003, x226004, x226005, x226006, x226007, x226008, x226009, x227000, x227001, x227002, x227003, x227004, x227005, x227006, x227007, x227008, x227009 => if x226001 = true then (fresh_may.j1 k x2 x3 x9 true x226000 x226001 x226002 x226003 x226004 x226005 x226006 x226007 x226008 x226009 x227000 x227001 x227002 x227003 x227004 x227005 x227006 x227007 x227008 x227009) else (fresh_may.j1 k x2 x3 x9 x227001 x226000 x226001 x226002 x226003 x226004 x226005 x226006 x226007 x226008 x226009 x227000 x227001 x227002 x227003 x227004 x227005 x227006 x227007 x227008 x227009)
def fresh_may.j1 : Nat → Int → Int → Bool → Bool → Bool → Bool → Bool → Bool → Bool → Bool → Int → Int → Int → Int → Bool → Bool → Bool → Bool → Bool → Bool → Int → Int → Int → Int → Option (Bool)
 | 0, _, _, _, _, _, _, _, _, _, _, _, _, _, _, _, _, _, _, _, _, _, _, _, _ => none
 | k + 1, x2, x3, x9, x19, x226000, x226001, x226002, x226003, x226004, x226005, x226006, x226007, x226008, x226009, x227000, x227001, x227002, x227003, x227004, x227005, x227006, x227007, x227008, x227009 => if x19 = true then (some false) else (if x2 < x3 then (if x9 = true then (if x226008 < 0 then (some true) else (if (wrap64 (x3 - x2)) ≥ x226008 then (some true) else (if x226009 ≥ 0 then (some false) else (some false)))) else (some false)) else (if x9 = true then (if x226009 ≥ 0 then (if x226008 < 0 then (if x227004 = true then (some false) else (if x227007 < 0 then (some (decide ((wrap64 (x2 - x3)) ≤ x226009))) else (some false))) else (some false)) else (some false)) else (some false)))
end
def fresh_may.f (k : Nat) (a0_0 : Bool) (a0_1 : Bool) (a0_2 : Bool) (a0_3 : Bool) (a0_4 : Bool) (a0_5 : Bool) (a0_6 : Int) (a0_7 : Int) (a0_8 : Int) (a0_9 : Int) (a1_0 : Bool) (a1_1 : Bool) (a1_2 : Bool) (a1_3 : Bool) (a1_4 : Bool) (a1_5 : Bool) (a1_6 : Int) (a1_7 : Int) (a1_8 : Int) (a1_9 : Int) (a2 : Int) (a3 : Int) : Option (Bool) := if a0_6 < 0 then (fresh_may.j0 k a2 a3 true a0_0 a0_1 a0_2 a0_3 a0_4 a0_5 a0_6 a0_7 a0_8 a0_9 a1_0 a1_1 a1_2 a1_3 a1_4 a1_5 a1_6 a1_7 a1_8 a1_9) else (fresh_may.j0 k a2 a3 (decide (a2 ≤ a0_6)) a0_0 a0_1 a0_2 a0_3 a0_4 a0_5 a0_6 a0_7 a0_8 a0_9 a1_0 a1_1 a1_2 a1_3 a1_4 a1_5 a1_6 a1_7 a1_8 a1_9)
theorem fresh_may.mono_l : ∀ k, (∀ y0 y1 y2 y3 y4 y5 y6 y7 y8 y9 y10 y11 y12 y13 y14 y15 y16 y17 y18 y19 y20 y21 y22, LeO (fresh_may.j0 k y0 y1 y2 y3 y4 y5 y6 y7 y8 y9 y10 y11 y12 y13 y14 y15 y16 y17 y18 y19 y20 y21 y22) (fresh_may.j0 (k + 1) y0 y1 y2 y3 y4 y5 y6 y7 y8 y9 y10 y11 y12 y13 y14 y15 y16 y17 y18 y19 y20 y21 y22)) ∧ (∀ y0 y1 y2 y3 y4 y5 y6 y7 y8 y9 y10 y11 y12 y13 y14 y15 y16 y17 y18 y19 y20 y21 y22 y23, LeO (fresh_may.j1 k y0 y1 y2 y3 y4 y5 y6 y7 y8 y9 y10 y11 y12 y13 y14 y15 y16 y17 y18 y19 y20 y21 y22 y23) (fresh_may.j1 (k + 1) y0 y1 y2 y3 y4 y5 y6 y7 y8 y9 y10 y11 y12 y13 y14 y15 y16 y17 y18 y19 y20 y21 y22 y23))
 | 0 => ⟨fun _ _ _ _ _ _ _ _ _ _ _ _ _ _ _ _ _ _ _ _ _ _ _ r h => by simp [fresh_may.j0] at h, fun _ _ _ _ _ _ _ _ _ _ _ _ _ _ _ _ _ _ _ _ _ _ _ _ r h => by simp [fresh_may.j1] at h⟩
 | k + 1 => by
  obtain ⟨ih0, ih1⟩ := fresh_may.mono_l k
  refine ⟨?_, ?_⟩
  ·
   intro y0 y1 y2 y3 y4 y5 y6 y7 y8 y9 y10 y11 y12 y13 y14 y15 y16 y17 y18 y19 y20 y21 y22
   unfold fresh_may.j0
   repeat' (with_reducible first | exact ih0 _ _ _ _ _ _ _ _ _ _ _ _ _ _ _ _ _ _ _ _ _ _ _ | exact ih1 _ _ _ _ _ _ _ _ _ _ _ _ _ _ _ _ _ _ _ _ _ _ _ _ | exact lR_ | refine LeO.ite ?_ ?_ | refine LeO.bind ?_ (fun _ => ?_))
  ·
   intro y0 y1 y2 y3 y4 y5 y6 y7 y8 y9 y10 y11 y12 y13 y14 y15 y16 y17 y18 y19 y20 y21 y22 y23
   unfold fresh_may.j1
   repeat' (with_reducible first | exact ih0 _ _ _ _ _ _ _ _ _ _ _ _ _ _ _ _ _ _ _ _ _ _ _ | exact ih1 _ _ _ _ _ _ _ _ _ _ _ _ _ _ _ _ _ _ _ _ _ _ _ _ | exact lR_ | refine LeO.ite ?_ ?_ | refine LeO.bind ?_ (fun _ => ?_))
theorem fresh_may.mono : ∀ a0 a1 a2 a3 a4 a5 a6 a7 a8 a9 a10 a11 a12 a13 a14 a15 a16 a17 a18 a19 a20 a21 k, LeO (fresh_may.f k a0 a1 a2 a3 a4 a5 a6 a7 a8 a9 a10 a11 a12 a13 a14 a15 a16 a17 a18 a19 a20 a21) (fresh_may.f (k + 1) a0 a1 a2 a3 a4 a5 a6 a7 a8 a9 a10 a11 a12 a13 a14 a15 a16 a17 a18 a19 a20 a21) := by
 intro a0 a1 a2 a3 a4 a5 a6 a7 a8 a9 a10 a11 a12 a13 a14 a15 a16 a17 a18 a19 a20 a21 k
 obtain ⟨ih0, ih1⟩ := fresh_may.mono_l k
 unfold fresh_may.f
 repeat' (with_reducible first | exact ih0 _ _ _ _ _ _ _ _ _ _ _ _ _ _ _ _ _ _ _ _ _ _ _ | exact ih1 _ _ _ _ _ _ _ _ _ _ _ _ _ _ _ _ _ _ _ _ _ _ _ _ | exact lR_ | refine LeO.ite ?_ ?_ | refine LeO.bind ?_ (fun _ => ?_))
set_option maxHeartbeats 8000000 in
set_option maxRecDepth 100000 in
theorem fresh_may.calls (k : Nat) (a0_0 : Bool) (a0_1 : Bool) (a0_2 : Bool) (a0_3 : Bool) (a0_4 : Bool) (a0_5 : Bool) (a0_6 : Int) (a0_7 : Int) (a0_8 : Int) (a0_9 : Int) (a1_0 : Bool) (a1_1 : Bool) (a1_2 : Bool) (a1_3 : Bool) (a1_4 : Bool) (a1_5 : Bool) (a1_6 : Int) (a1_7 : Int) (a1_8 : Int) (a1_9 : Int) (a2 : Int) (a3 : Int) (r : Bool) (w : World) (h : fresh_may.f k a0_0 a0_1 a0_2 a0_3 a0_4 a0_5 a0_6 a0_7 a0_8 a0_9 a1_0 a1_1 a1_2 a1_3 a1_4 a1_5 a1_6 a1_7 a1_8 a1_9 a2 a3 = some r) :
  Calls Tryz.prog 41 #[.agg #[.bool a0_0, .bool a0_1, .bool a0_2, .bool a0_3, .bool a0_4, .bool a0_5, .int .i64 a0_6, .int .i64 a0_7, .int .i64 a0_8, .int .i64 a0_9], .agg #[.bool a1_0, .bool a1_1, .bool a1_2, .bool a1_3, .bool a1_4, .bool a1_5, .int .i64 a1_6, .int .i64 a1_7, .int .i64 a1_8, .int .i64 a1_9], .int .i64 a2, .int .i64 a3] w fun e w' => e = .returned (.bool r) ∧ Below w.heap.size w w' := by
 have hu57 := Tryz.underlying57
 have HB := Aside0.mk (Below.refl w.heap.size w)
 have H : (if a0_6 < 0 then (fresh_may.j0 k a2 a3 true a0_0 a0_1 a0_2 a0_3 a0_4 a0_5 a0_6 a0_7 a0_8 a0_9 a1_0 a1_1 a1_2 a1_3 a1_4 a1_5 a1_6 a1_7 a1_8 a1_9) else (fresh_may.j0 k a2 a3 (decide (a2 ≤ a0_6)) a0_0 a0_1 a0_2 a0_3 a0_4 a0_5 a0_6 a0_7 a0_8 a0_9 a1_0 a1_1 a1_2 a1_3 a1_4 a1_5 a1_6 a1_7 a1_8 a1_9)) = some r := h
 clear h
 have HC5 := Aside0.mk H
 clear H
 go_enter Tryz.func41, Tryz.ntmps41
 go_upto_region 1 with (first | ((with_reducible refine gate_dst (N := 4) rfl ?_); refine box_event ?hg (N := 4) ?hd (cs := #[.bool a0_0, .bool a0_1, .bool a0_2, .bool a0_3, .bool a0_4, .bool a0_5, .int .i64 a0_6, .int .i64 a0_7, .int .i64 a0_8, .int .i64 a0_9]) (t := 57) ?hr ?_; (case hd | hg => rfl); (case hr => exact S1_); intro gb225 hg w6 hbox hb; have BK225 := Aside0.mk (hbox); have GW225 := Aside0.mk ((Z1_ : w.heap.size ≤ gb225)); have GE225 := Aside0.mk ((Z1_ : w.heap.size ≤ gb225)); replace HB := y1_ hb; clear hb hbox hg) | ((with_reducible refine gate_dst (N := 5) rfl ?_); refine box_event ?hg (N := 5) ?hd (cs := #[.bool a1_0, .bool a1_1, .bool a1_2, .bool a1_3, .bool a1_4, .bool a1_5, .int .i64 a1_6, .int .i64 a1_7, .int .i64 a1_8, .int .i64 a1_9]) (t := 57) ?hr ?_; (case hd | hg => rfl); (case hr => exact S1_); intro gb226 hg w7 hbox hb; have BK226 := Aside0.mk (hbox); have GW226 := Aside0.mk ((Z2_ : w.heap.size ≤ gb226)); have GE226 := Aside0.mk ((Z2_ : w.heap.size ≤ gb226)); have NB225_226 := Aside0.mk ((by rw [hg]; exact Nat.ne_of_lt (blk_lt (B1_ BK225.out)) : gb225 ≠ gb226)); have NB226_225 := Aside0.mk ((by rw [hg]; exact Nat.ne_of_gt (blk_lt (B1_ BK225.out)) : gb226 ≠ gb225)); replace BK225 := yB_ BK225 hb; replace HB := y2_ hb; clear hb hbox hg))
 (try simp only [Act.put, sA_, sZ_, sS_])
 go_cut [9] (fun v9 wc => ∃ (kq : Nat) (x9_4 : Bool), v9 = .bool x9_4 ∧ Aside0 (fresh_may.j0 kq a2 a3 x9_4 a0_0 a0_1 a0_2 a0_3 a0_4 a0_5 a0_6 a0_7 a0_8 a0_9 a1_0 a1_1 a1_2 a1_3 a1_4 a1_5 a1_6 a1_7 a1_8 a1_9 = some r) ∧ Aside0 (kq ≤ k) ∧ Aside0 (wc.heap[gb225]? = some (.cells #[.bool a0_0, .bool a0_1, .bool a0_2, .bool a0_3, .bool a0_4, .bool a0_5, .int .i64 a0_6, .int .i64 a0_7, .int .i64 a0_8, .int .i64 a0_9] 57 (0, 0))) ∧ Aside0 (wc.heap[gb226]? = some (.cells #[.bool a1_0, .bool a1_1, .bool a1_2, .bool a1_3, .bool a1_4, .bool a1_5, .int .i64 a1_6, .int .i64 a1_7, .int .i64 a1_8, .int .i64 a1_9] 57 (0, 0))) ∧ Aside0 (Below w.heap.size w wc))
 case first =>
  have H := HC5.out
  clear HC5
  by_cases c8 : a0_6 < 0
  ·
   rw [if_pos c8] at H
   have c8b0 : decide (a0_6 < 0) = true := decide_eq_true c8
   clear c8
   (first | rw [c8b0] | (simp only [i64_w, i32_w]; rw [c8b0]) | skip)
   have H' := Aside0.mk H
   clear H
   have hnb9 := NB225_226.out
   have hnc9 := NB226_225.out
   obtain ⟨z10_0, z10_1, z10_2, z10_3, z10_4, z10_5, z10_6, z10_7, z10_8, z10_9, y10_0, y10_1, y10_2, y10_3, y10_4, y10_5, y10_6, y10_7, y10_8, y10_9⟩ := cz10_ BK225.out
   go_wp2
   go_meet
   case rel => exact ⟨_, (true), E3_, H', ⟨by first | omega | exact Nat.le_refl _⟩, ⟨B1_ BK225.out⟩, ⟨B1_ BK226.out⟩, ⟨W2_⟩⟩
  ·
   rw [if_neg c8] at H
   have c8b0 : decide (a0_6 < 0) = false := decide_eq_false c8
   clear c8
   (first | rw [c8b0] | (simp only [i64_w, i32_w]; rw [c8b0]) | skip)
   have H' := Aside0.mk H
   clear H
   have hnb11 := NB225_226.out
   have hnc11 := NB226_225.out
   obtain ⟨z12_0, z12_1, z12_2, z12_3, z12_4, z12_5, z12_6, z12_7, z12_8, z12_9, y12_0, y12_1, y12_2, y12_3, y12_4, y12_5, y12_6, y12_7, y12_8, y12_9⟩ := cz10_ BK225.out
   go_wp2
   go_meet
   case rel => exact ⟨_, (decide (a2 ≤ a0_6)), E3_, H', ⟨by first | omega | exact Nat.le_refl _⟩, ⟨B1_ BK225.out⟩, ⟨B1_ BK226.out⟩, ⟨W2_⟩⟩
 case rest =>
  clear HC5
  (try clear c8); (try clear c8b0); (try clear z10_0 z10_1 z10_2 z10_3 z10_4 z10_5 z10_6 z10_7 z10_8 z10_9 y10_0 y10_1 y10_2 y10_3 y10_4 y10_5 y10_6 y10_7 y10_8 y10_9); (try clear z12_0 z12_1 z12_2 z12_3 z12_4 z12_5 z12_6 z12_7 z12_8 z12_9 y12_0 y12_1 y12_2 y12_3 y12_4 y12_5 y12_6 y12_7 y12_8 y12_9)
  obtain ⟨kq, x9_4, rfl, HA, HJ4, BK225, BK226, HB⟩ := hcut
  cases kq with
  | zero => exact absurd HA.out (by simp [fresh_may.j0])
  | succ kj4 =>
   have H := HA.out
   clear HA
   simp only [fresh_may.j0] at H
   have HC13 := Aside0.mk H
   clear H
   go_upto_region 2 with (fail)
   go_cut [19] (fun v19 wc => ∃ (kq : Nat) (x19_12 : Bool), v19 = .bool x19_12 ∧ Aside0 (fresh_may.j1 kq a2 a3 x9_4 x19_12 a0_0 a0_1 a0_2 a0_3 a0_4 a0_5 a0_6 a0_7 a0_8 a0_9 a1_0 a1_1 a1_2 a1_3 a1_4 a1_5 a1_6 a1_7 a1_8 a1_9 = some r) ∧ Aside0 (kq ≤ kj4) ∧ Aside0 (wc.heap[gb225]? = some (.cells #[.bool a0_0, .bool a0_1, .bool a0_2, .bool a0_3, .bool a0_4, .bool a0_5, .int .i64 a0_6, .int .i64 a0_7, .int .i64 a0_8, .int .i64 a0_9] 57 (0, 0))) ∧ Aside0 (wc.heap[gb226]? = some (.cells #[.bool a1_0, .bool a1_1, .bool a1_2, .bool a1_3, .bool a1_4, .bool a1_5, .int .i64 a1_6, .int .i64 a1_7, .int .i64 a1_8, .int .i64 a1_9] 57 (0, 0))) ∧ Aside0 (Below w.heap.size w wc))
   case first =>
    have H := HC13.out
    clear HC13
    by_cases c14 : a0_1 = true
    ·
     subst c14
     rw [if_pos rfl] at H
     have H' := Aside0.mk H
     clear H
     have hnb15 := NB225_226.out
     have hnc15 := NB226_225.out
     obtain ⟨z16_0, z16_1, z16_2, z16_3, z16_4, z16_5, z16_6, z16_7, z16_8, z16_9, y16_0, y16_1, y16_2, y16_3, y16_4, y16_5, y16_6, y16_7, y16_8, y16_9⟩ := cz10_ BK225.out
     go_wp2
     go_meet
     case rel => exact ⟨_, (true), E3_, H', ⟨by have := HJ4.out; first | omega | exact Nat.le_refl _⟩, ⟨B1_ BK225.out⟩, ⟨B1_ BK226.out⟩, ⟨W2_⟩⟩
    ·
     replace c14 := Bool.eq_false_iff.mpr c14
     subst c14
     rw [if_neg (show ¬ (false = true) by decide)] at H
     have H' := Aside0.mk H
     clear H
     have hnb17 := NB225_226.out
     have hnc17 := NB226_225.out
     obtain ⟨z18_0, z18_1, z18_2, z18_3, z18_4, z18_5, z18_6, z18_7, z18_8, z18_9, y18_0, y18_1, y18_2, y18_3, y18_4, y18_5, y18_6, y18_7, y18_8, y18_9⟩ := cz10_ BK225.out
     obtain ⟨z19_0, z19_1, z19_2, z19_3, z19_4, z19_5, z19_6, z19_7, z19_8, z19_9, y19_0, y19_1, y19_2, y19_3, y19_4, y19_5, y19_6, y19_7, y19_8, y19_9⟩ := cz10_ BK226.out
     go_wp2
     go_meet
     case rel => exact ⟨_, (a1_1), E3_, H', ⟨by have := HJ4.out; first | omega | exact Nat.le_refl _⟩, ⟨B1_ BK225.out⟩, ⟨B1_ BK226.out⟩, ⟨W2_⟩⟩
   case rest =>
    clear HC13
    (try clear c8); (try clear c8b0); (try clear c14); (try clear z10_0 z10_1 z10_2 z10_3 z10_4 z10_5 z10_6 z10_7 z10_8 z10_9 y10_0 y10_1 y10_2 y10_3 y10_4 y10_5 y10_6 y10_7 y10_8 y10_9); (try clear z12_0 z12_1 z12_2 z12_3 z12_4 z12_5 z12_6 z12_7 z12_8 z12_9 y12_0 y12_1 y12_2 y12_3 y12_4 y12_5 y12_6 y12_7 y12_8 y12_9); (try clear z16_0 z16_1 z16_2 z16_3 z16_4 z16_5 z16_6 z16_7 z16_8 z16_9 y16_0 y16_1 y16_2 y16_3 y16_4 y16_5 y16_6 y16_7 y16_8 y16_9); (try clear z18_0 z18_1 z18_2 z18_3 z18_4 z18_5 z18_6 z18_7 z18_8 z18_9 y18_0 y18_1 y18_2 y18_3 y18_4 y18_5 y18_6 y18_7 y18_8 y18_9); (try clear z19_0 z19_1 z19_2 z19_3 z19_4 z19_5 z19_6 z19_7 z19_8 z19_9 y19_0 y19_1 y19_2 y19_3 y19_4 y19_5 y19_6 y19_7 y19_8 y19_9)
    obtain ⟨kq, x19_12, rfl, HA, HJ12, BK225, BK226, HB⟩ := hcut
    cases kq with
    | zero => exact absurd HA.out (by simp [fresh_may.j1])
    | succ kj12 =>
     have H := HA.out
     clear HA
     simp only [fresh_may.j1] at H
     by_cases c20 : x19_12 = true
     ·
      subst c20
      rw [if_pos rfl] at H
      obtain rfl := Option.some.inj H
      go_wp2
      go_ret
      exact ⟨E1_, W2_⟩
     ·
      replace c20 := Bool.eq_false_iff.mpr c20
      subst c20
      rw [if_neg (show ¬ (false = true) by decide)] at H
      by_cases c21 : a2 < a3
      ·
       rw [if_pos c21] at H
       have c21b0 : decide (a2 < a3) = true := decide_eq_true c21
       clear c21
       by_cases c22 : x9_4 = true
       ·
        subst c22
        rw [if_pos rfl] at H
        by_cases c23 : a0_8 < 0
        ·
         rw [if_pos c23] at H
         have c23b0 : decide (a0_8 < 0) = true := decide_eq_true c23
         clear c23
         obtain rfl := Option.some.inj H
         have hnb24 := NB225_226.out
         have hnc24 := NB226_225.out
         obtain ⟨z25_0, z25_1, z25_2, z25_3, z25_4, z25_5, z25_6, z25_7, z25_8, z25_9, y25_0, y25_1, y25_2, y25_3, y25_4, y25_5, y25_6, y25_7, y25_8, y25_9⟩ := cz10_ BK225.out
         go_wp2
         go_ret
         exact ⟨E1_, W2_⟩
        ·
         rw [if_neg c23] at H
         have c23b0 : decide (a0_8 < 0) = false := decide_eq_false c23
         clear c23
         by_cases c26 : (wrap64 (a3 - a2)) ≥ a0_8
         ·
          rw [if_pos c26] at H
          have c26b0 : decide (a0_8 ≤ (wrap64 (a3 - a2))) = true := decide_eq_true c26
          clear c26
          obtain rfl := Option.some.inj H
          have hnb27 := NB225_226.out
          have hnc27 := NB226_225.out
          obtain ⟨z28_0, z28_1, z28_2, z28_3, z28_4, z28_5, z28_6, z28_7, z28_8, z28_9, y28_0, y28_1, y28_2, y28_3, y28_4, y28_5, y28_6, y28_7, y28_8, y28_9⟩ := cz10_ BK225.out
          go_wp2
          go_ret
          exact ⟨E1_, W2_⟩
         ·
          rw [if_neg c26] at H
          have c26b0 : decide (a0_8 ≤ (wrap64 (a3 - a2))) = false := decide_eq_false c26
          clear c26
          by_cases c29 : a0_9 ≥ 0
          ·
           rw [if_pos c29] at H
           have c29b0 : decide (0 ≤ a0_9) = true := decide_eq_true c29
           clear c29
           obtain rfl := Option.some.inj H
           have hnb30 := NB225_226.out
           have hnc30 := NB226_225.out
           obtain ⟨z31_0, z31_1, z31_2, z31_3, z31_4, z31_5, z31_6, z31_7, z31_8, z31_9, y31_0, y31_1, y31_2, y31_3, y31_4, y31_5, y31_6, y31_7, y31_8, y31_9⟩ := cz10_ BK225.out
           go_wp2
           go_ret
           exact ⟨E1_, W2_⟩
          ·
           rw [if_neg c29] at H
           have c29b0 : decide (0 ≤ a0_9) = false := decide_eq_false c29
           clear c29
           obtain rfl := Option.some.inj H
           have hnb32 := NB225_226.out
           have hnc32 := NB226_225.out
           obtain ⟨z33_0, z33_1, z33_2, z33_3, z33_4, z33_5, z33_6, z33_7, z33_8, z33_9, y33_0, y33_1, y33_2, y33_3, y33_4, y33_5, y33_6, y33_7, y33_8, y33_9⟩ := cz10_ BK225.out
           go_wp2
           go_ret
           exact ⟨E1_, W2_⟩
       ·
        replace c22 := Bool.eq_false_iff.mpr c22
        subst c22
        rw [if_neg (show ¬ (false = true) by decide)] at H
        obtain rfl := Option.some.inj H
        go_wp2
        go_ret
        exact ⟨E1_, W2_⟩
      ·
       rw [if_neg c21] at H
       have c21b0 : decide (a2 < a3) = false := decide_eq_false c21
       clear c21
       by_cases c34 : x9_4 = true
       ·
        subst c34
        rw [if_pos rfl] at H
        by_cases c35 : a0_9 ≥ 0
        ·
         rw [if_pos c35] at H
         have c35b0 : decide (0 ≤ a0_9) = true := decide_eq_true c35
         clear c35
         by_cases c36 : a0_8 < 0
         ·
          rw [if_pos c36] at H
          have c36b0 : decide (a0_8 < 0) = true := decide_eq_true c36
          clear c36
          by_cases c37 : a1_4 = true
          ·
           subst c37
           rw [if_pos rfl] at H
           obtain rfl := Option.some.inj H
           have hnb38 := NB225_226.out
           have hnc38 := NB226_225.out
           obtain ⟨z39_0, z39_1, z39_2, z39_3, z39_4, z39_5, z39_6, z39_7, z39_8, z39_9, y39_0, y39_1, y39_2, y39_3, y39_4, y39_5, y39_6, y39_7, y39_8, y39_9⟩ := cz10_ BK225.out
           obtain ⟨z40_0, z40_1, z40_2, z40_3, z40_4, z40_5, z40_6, z40_7, z40_8, z40_9, y40_0, y40_1, y40_2, y40_3, y40_4, y40_5, y40_6, y40_7, y40_8, y40_9⟩ := cz10_ BK226.out
           go_wp2
           go_ret
           exact ⟨E1_, W2_⟩
          ·
           replace c37 := Bool.eq_false_iff.mpr c37
           subst c37
           rw [if_neg (show ¬ (false = true) by decide)] at H
           by_cases c41 : a1_7 < 0
           ·
            rw [if_pos c41] at H
            have c41b0 : decide (a1_7 < 0) = true := decide_eq_true c41
            clear c41
            obtain rfl := Option.some.inj H
            have hnb42 := NB225_226.out
            have hnc42 := NB226_225.out
            obtain ⟨z43_0, z43_1, z43_2, z43_3, z43_4, z43_5, z43_6, z43_7, z43_8, z43_9, y43_0, y43_1, y43_2, y43_3, y43_4, y43_5, y43_6, y43_7, y43_8, y43_9⟩ := cz10_ BK225.out
            obtain ⟨z44_0, z44_1, z44_2, z44_3, z44_4, z44_5, z44_6, z44_7, z44_8, z44_9, y44_0, y44_1, y44_2, y44_3, y44_4, y44_5, y44_6, y44_7, y44_8, y44_9⟩ := cz10_ BK226.out
            go_wp2
            go_ret
            exact ⟨E1_, W2_⟩
           ·
            rw [if_neg c41] at H
            have c41b0 : decide (a1_7 < 0) = false := decide_eq_false c41
            clear c41
            obtain rfl := Option.some.inj H
            have hnb45 := NB225_226.out
            have hnc45 := NB226_225.out
            obtain ⟨z46_0, z46_1, z46_2, z46_3, z46_4, z46_5, z46_6, z46_7, z46_8, z46_9, y46_0, y46_1, y46_2, y46_3, y46_4, y46_5, y46_6, y46_7, y46_8, y46_9⟩ := cz10_ BK225.out
            obtain ⟨z47_0, z47_1, z47_2, z47_3, z47_4, z47_5, z47_6, z47_7, z47_8, z47_9, y47_0, y47_1, y47_2, y47_3, y47_4, y47_5, y47_6, y47_7, y47_8, y47_9⟩ := cz10_ BK226.out
            go_wp2
            go_ret
            exact ⟨E1_, W2_⟩
         ·
          rw [if_neg c36] at H
          have c36b0 : decide (a0_8 < 0) = false := decide_eq_false c36
          clear c36
          obtain rfl := Option.some.inj H
          have hnb48 := NB225_226.out
          have hnc48 := NB226_225.out
          obtain ⟨z49_0, z49_1, z49_2, z49_3, z49_4, z49_5, z49_6, z49_7, z49_8, z49_9, y49_0, y49_1, y49_2, y49_3, y49_4, y49_5, y49_6, y49_7, y49_8, y49_9⟩ := cz10_ BK225.out
          go_wp2
          go_ret
          exact ⟨E1_, W2_⟩
        ·
         rw [if_neg c35] at H
         have c35b0 : decide (0 ≤ a0_9) = false := decide_eq_false c35
         clear c35
         obtain rfl := Option.some.inj H
         have hnb50 := NB225_226.out
         have hnc50 := NB226_225.out
         obtain ⟨z51_0, z51_1, z51_2, z51_3, z51_4, z51_5, z51_6, z51_7, z51_8, z51_9, y51_0, y51_1, y51_2, y51_3, y51_4, y51_5, y51_6, y51_7, y51_8, y51_9⟩ := cz10_ BK225.out
         go_wp2
         go_ret
         exact ⟨E1_, W2_⟩
       ·
        replace c34 := Bool.eq_false_iff.mpr c34
        subst c34
        rw [if_neg (show ¬ (false = true) by decide)] at H
        obtain rfl := Option.some.inj H
        go_wp2
        go_ret
        exact ⟨E1_, W2_⟩

end Go.Proofs.YtgpekljckdgggaaGreatDoor.PAll
