import Derived.Test.YtgpekljckdgggaaGreatDoorPAllx0
namespace Go.Proofs.YtgpekljckdgggaaGreatDoor.PAll
open Go.RowKit Go.Proofs.YtgpekljckdgggaaGreatDoorW.PrintWords Go.Proofs.YtgpekljckdgggaaGreatDoorW.PrintLast Go.Proofs.YtgpekljckdgggaaGreatDoorW.PrintMore
attribute [local go_sem] max2_int min2_int max_two min_two max_three min_three max_four min_four   -- for this text's walks alone
set_option linter.unusedVariables false
set_option linter.unusedSimpArgs false

/-! ### pantryref12_may: function 42 -/
mutual
def pantryref12_may.j0 : Nat → Int → Int → Bool → Bool → Bool → Bool → Bool → Bool → Bool → Int → Int → Int → Int → Bool → Bool → Bool → Bool → Bool → Bool → Int → Int → Int → Int → Option (Bool)
 | 0, _, _, _, _, _, _, _, _, _, _, _, _, _, _, _, _, _, _, _, _, _, _, _ => none
 | k + 1, x2, x3, x14, x406000, x406001, x406002, x406003, x406004, x406005, x406006, x406007, x406008, x406009, x407000, x407001, x407002, x407003, x407004, x407005, x407006, x407007, x407008, x407009 => if x14 = true then (some false) else (if x406006 ≥ 0 then (pantryref12_may.j1 k x2 x3 (decide (x2 > x406006)) x406000 x406001 x406002 x406003 x406004 x406005 x406006 x406007 x406008 x406009 x407000 x407001 x407002 x407003 x407004 x407005 x407006 x407007 x407008 x407009) else (pantryref12_may.j1 k x2 x3 false x406000 x406001 x406002 x406003 x406004 x406005 x406006 x406007 x406008 x406009 x407000 x407001 x407002 x407003 x407004 x407005 x407006 x407007 x407008 x407009))
def pantryref12_may.j1 : Nat → Int → Int → Bool → Bool → Bool → Bool → Bool → Bool → Bool → Int → Int → Int → Int → Bool → Bool → Bool → Bool → Bool → Bool → Int → Int → Int → Int → Option (Bool)
 | 0, _, _, _, _, _, _, _, _, _, _, _, _, _, _, _, _, _, _, _, _, _, _, _ => none
 | k + 1, x2, x3, x23, x406000, x406001, x406002, x406003, x406004, x406005, x406006, x406007, x406008, x406009, x407000, x407001, x407002, x407003, x407004, x407005, x407006, x407007, x407008, x407009 => if x23 = true then (some false) else (if x2 < x3 then (if x406008 < 0 then (pantryref12_may.j2 k x2 x3 true x406000 x406001 x406002 x406003 x406004 x406005 x406006 x406007 x406008 x406009 x407000 x407001 x407002 x407003 x407004 x407005 x407006 x407007 x407008 x407009) else (pantryref12_may.j2 k x2 x3 (decide (x3 ≥ (wrap64 (x2 + x406008)))) x406000 x406001 x406002 x406003 x406004 x406005 x406006 x406007 x406008 x406009 x407000 x407001 x407002 x407003 x407004 x407005 x407006 x407007 x407008 x407009)) else (pantryref12_may.j2 k x2 x3 false x406000 x406001 x406002 x406003 x406004 x406005 x406006 x406007 x406008 x406009 x407000 x407001 x407002 x407003 x407004 x407005 x407006 x407007 x407008 x407009))
def pantryref12_may.j2 : Nat → Int → Int → Bool → Bool → Bool → Bool → Bool → Bool → Bool → Int → Int → Int → Int → Bool → Bool → Bool → Bool → Bool → Bool → Int → Int → Int → Int → Option (Bool)
 | 0, _, _, _, _, _, _, _, _, _, _, _, _, _, _, _, _, _, _, _, _, _, _, _ => none
 | k + 1, x2, x3, x39, x406000, x406001, x406002, x406003, x406004, x406005, x406006, x406007, x406008, x406009, x407000, x407001, x407002, x407003, x407004, x407005, x407006, x407007, x407008, x407009 => if x39 = true then (some true) else (if x406009 < 0 then (some false) else (if x406008 ≥ 0 then (some false) else (if x407004 = true then (some false) else (if x407007 ≥ 0 then (some false) else (some (decide (x2 ≤ (wrap64 (x3 + x406009)))))))))
end
def pantryref12_may.f (k : Nat) (a0_0 : Bool) (a0_1 : Bool) (a0_2 : Bool) (a0_3 : Bool) (a0_4 : Bool) (a0_5 : Bool) (a0_6 : Int) (a0_7 : Int) (a0_8 : Int) (a0_9 : Int) (a1_0 : Bool) (a1_1 : Bool) (a1_2 : Bool) (a1_3 : Bool) (a1_4 : Bool) (a1_5 : Bool) (a1_6 : Int) (a1_7 : Int) (a1_8 : Int) (a1_9 : Int) (a2 : Int) (a3 : Int) : Option (Bool) := if a0_1 = true then (pantryref12_may.j0 k a2 a3 true a0_0 a0_1 a0_2 a0_3 a0_4 a0_5 a0_6 a0_7 a0_8 a0_9 a1_0 a1_1 a1_2 a1_3 a1_4 a1_5 a1_6 a1_7 a1_8 a1_9) else (pantryref12_may.j0 k a2 a3 a1_1 a0_0 a0_1 a0_2 a0_3 a0_4 a0_5 a0_6 a0_7 a0_8 a0_9 a1_0 a1_1 a1_2 a1_3 a1_4 a1_5 a1_6 a1_7 a1_8 a1_9)
theorem pantryref12_may.mono_l : ∀ k, (∀ y0 y1 y2 y3 y4 y5 y6 y7 y8 y9 y10 y11 y12 y13 y14 y15 y16 y17 y18 y19 y20 y21 y22, LeO (pantryref12_may.j0 k y0 y1 y2 y3 y4 y5 y6 y7 y8 y9 y10 y11 y12 y13 y14 y15 y16 y17 y18 y19 y20 y21 y22) (pantryref12_may.j0 (k + 1) y0 y1 y2 y3 y4 y5 y6 y7 y8 y9 y10 y11 y12 y13 y14 y15 y16 y17 y18 y19 y20 y21 y22)) ∧ (∀ y0 y1 y2 y3 y4 y5 y6 y7 y8 y9 y10 y11 y12 y13 y14 y15 y16 y17 y18 y19 y20 y21 y22, LeO (pantryref12_may.j1 k y0 y1 y2 y3 y4 y5 y6 y7 y8 y9 y10 y11 y12 y13 y14 y15 y16 y17 y18 y19 y20 y21 y22) (pantryref12_may.j1 (k + 1) y0 y1 y2 y3 y4 y5 y6 y7 y8 y9 y10 y11 y12 y13 y14 y15 y16 y17 y18 y19 y20 y21 y22)) ∧ (∀ y0 y1 y2 y3 y4 y5 y6 y7 y8 y9 y10 y11 y12 y13 y14 y15 y16 y17 y18 y19 y20 y21 y22, LeO (pantryref12_may.j2 k y0 y1 y2 y3 y4 y5 y6 y7 y8 y9 y10 y11 y12 y13 y14 y15 y16 y17 y18 y19 y20 y21 y22) (pantryref12_may.j2 (k + 1) y0 y1 y2 y3 y4 y5 y6 y7 y8 y9 y10 y11 y12 y13 y14 y15 y16 y17 y18 y19 y20 y21 y22))
 | 0 => ⟨fun _ _ _ _ _ _ _ _ _ _ _ _ _ _ _ _ _ _ _ _ _ _ _ r h => by simp [pantryref12_may.j0] at h, fun _ _ _ _ _ _ _ _ _ _ _ _ _ _ _ _ _ _ _ _ _ _ _ r h => by simp [pantryref12_may.j1] at h, fun _ _ _ _ _ _ _ _ _ _ _ _ _ _ _ _ _ _ _ _ _ _ _ r h => by simp [pantryref12_may.j2] at h⟩
 | k + 1 => by
  obtain ⟨ih0, ih1, ih2⟩ := pantryref12_may.mono_l k
  refine ⟨?_, ?_, ?_⟩
  ·
   intro y0 y1 y2 y3 y4 y5 y6 y7 y8 y9 y10 y11 y12 y13 y14 y15 y16 y17 y18 y19 y20 y21 y22
   unfold pantryref12_may.j0
   repeat' (with_reducible first | exact ih0 _ _ _ _ _ _ _ _ _ _ _ _ _ _ _ _ _ _ _ _ _ _ _ | exact ih1 _ _ _ _ _ _ _ _ _ _ _ _ _ _ _ _ _ _ _ _ _ _ _ | exact ih2 _ _ _ _ _ _ _ _ _ _ _ _ _ _ _ _ _ _ _ _ _ _ _ | exact lR_ | refine LeO.ite ?_ ?_ | refine LeO.bind ?_ (fun _ => ?_))
  ·
   intro y0 y1 y2 y3 y4 y5 y6 y7 y8 y9 y10 y11 y12 y13 y14 y15 y16 y17 y18 y19 y20 y21 y22
   unfold pantryref12_may.j1
   repeat' (with_reducible first | exact ih0 _ _ _ _ _ _ _ _ _ _ _ _ _ _ _ _ _ _ _ _ _ _ _ | exact ih1 _ _ _ _ _ _ _ _ _ _ _ _ _ _ _ _ _ _ _ _ _ _ _ | exact ih2 _ _ _ _ _ _ _ _ _ _ _ _ _ _ _ _ _ _ _ _ _ _ _ | exact lR_ | refine LeO.ite ?_ ?_ | refine LeO.bind ?_ (fun _ => ?_))
  ·
   intro y0 y1 y2 y3 y4 y5 y6 y7 y8 y9 y10 y11 y12 y13 y14 y15 y16 y17 y18 y19 y20 y21 y22
   unfold pantryref12_may.j2
   repeat' (with_reducible first | exact ih0 _ _ _ _ _ _ _ _ _ _ _ _ _ _ _ _ _ _ _ _ _ _ _ | exact ih1 _ _ _ _ _ _ _ _ _ _ _ _ _ _ _ _ _ _ _ _ _ _ _ | exact ih2 _ _ _ _ _ _ _ _ _ _ _ _ _ _ _ _ _ _ _ _ _ _ _ | exact lR_ | refine LeO.ite ?_ ?_ | refine LeO.bind ?_ (fun _ => ?_))
theorem pantryref12_may.mono : ∀ a0 a1 a2 a3 a4 a5 a6 a7 a8 a9 a10 a11 a12 a13 a14 a15 a16 a17 a18 a19 a20 a21 k, LeO (pantryref12_may.f k a0 a1 a2 a3 a4 a5 a6 a7 a8 a9 a10 a11 a12 a13 a14 a15 a16 a17 a18 a19 a20 a21) (pantryref12_may.f (k + 1) a0 a1 a2 a3 a4 a5 a6 a7 a8 a9 a10 a11 a12 a13 a14 a15 a16 a17 a18 a19 a20 a21) := by
 intro a0 a1 a2 a3 a4 a5 a6 a7 a8 a9 a10 a11 a12 a13 a14 a15 a16 a17 a18 a19 a20 a21 k
 obtain ⟨ih0, ih1, ih2⟩ := pantryref12_may.mono_l k
 unfold pantryref12_may.f
 repeat' (with_reducible first | exact ih0 _ _ _ _ _ _ _ _ _ _ _ _ _ _ _ _ _ _ _ _ _ _ _ | exact ih1 _ _ _ _ _ _ _ _ _ _ _ _ _ _ _ _ _ _ _ _ _ _ _ | exact ih2 _ _ _ _ _ _ _ _ _ _ _ _ _ _ _ _ _ _ _ _ _ _ _ | exact lR_ | refine LeO.ite ?_ ?_ | refine LeO.bind ?_ (fun _ => ?_))
set_option maxHeartbeats 8000000 in
set_option maxRecDepth 100000 in
theorem pantryref12_may.calls (k : Nat) (a0_0 : Bool) (a0_1 : Bool) (a0_2 : Bool) (a0_3 : Bool) (a0_4 : Bool) (a0_5 : Bool) (a0_6 : Int) (a0_7 : Int) (a0_8 : Int) (a0_9 : Int) (a1_0 : Bool) (a1_1 : Bool) (a1_2 : Bool) (a1_3 : Bool) (a1_4 : Bool) (a1_5 : Bool) (a1_6 : Int) (a1_7 : Int) (a1_8 : Int) (a1_9 : Int) (a2 : Int) (a3 : Int) (r : Bool) (w : World) (h : pantryref12_may.f k a0_0 a0_1 a0_2 a0_3 a0_4 a0_5 a0_6 a0_7 a0_8 a0_9 a1_0 a1_1 a1_2 a1_3 a1_4 a1_5 a1_6 a1_7 a1_8 a1_9 a2 a3 = some r) :
  Calls Tryz.prog 42 #[.agg #[.bool a0_0, .bool a0_1, .bool a0_2, .bool a0_3, .bool a0_4, .bool a0_5, .int .i64 a0_6, .int .i64 a0_7, .int .i64 a0_8, .int .i64 a0_9], .agg #[.bool a1_0, .bool a1_1, .bool a1_2, .bool a1_3, .bool a1_4, .bool a1_5, .int .i64 a1_6, .int .i64 a1_7, .int .i64 a1_8, .int .i64 a1_9], .int .i64 a2, .int .i64 a3] w fun e w' => e = .returned (.bool r) ∧ Below w.heap.size w w' := by
 have hu64 := Tryz.underlying64
 have HB := Aside0.mk (Below.refl w.heap.size w)
 have H : (if a0_1 = true then (pantryref12_may.j0 k a2 a3 true a0_0 a0_1 a0_2 a0_3 a0_4 a0_5 a0_6 a0_7 a0_8 a0_9 a1_0 a1_1 a1_2 a1_3 a1_4 a1_5 a1_6 a1_7 a1_8 a1_9) else (pantryref12_may.j0 k a2 a3 a1_1 a0_0 a0_1 a0_2 a0_3 a0_4 a0_5 a0_6 a0_7 a0_8 a0_9 a1_0 a1_1 a1_2 a1_3 a1_4 a1_5 a1_6 a1_7 a1_8 a1_9)) = some r := h
 clear h
 have HC5 := Aside0.mk H
 clear H
 go_enter Tryz.func42, Tryz.ntmps42
 go_upto_region 1 with (first | ((with_reducible refine gate_dst (N := 4) rfl ?_); refine box_event ?hg (N := 4) ?hd (cs := #[.bool a0_0, .bool a0_1, .bool a0_2, .bool a0_3, .bool a0_4, .bool a0_5, .int .i64 a0_6, .int .i64 a0_7, .int .i64 a0_8, .int .i64 a0_9]) (t := 64) ?hr ?_; (case hd | hg => rfl); (case hr => exact S1_); intro gb405 hg w6 hbox hb; have BK405 := Aside0.mk (hbox); have GW405 := Aside0.mk ((Z1_ : w.heap.size ≤ gb405)); have GE405 := Aside0.mk ((Z1_ : w.heap.size ≤ gb405)); replace HB := y1_ hb; clear hb hbox hg) | ((with_reducible refine gate_dst (N := 5) rfl ?_); refine box_event ?hg (N := 5) ?hd (cs := #[.bool a1_0, .bool a1_1, .bool a1_2, .bool a1_3, .bool a1_4, .bool a1_5, .int .i64 a1_6, .int .i64 a1_7, .int .i64 a1_8, .int .i64 a1_9]) (t := 64) ?hr ?_; (case hd | hg => rfl); (case hr => exact S1_); intro gb406 hg w7 hbox hb; have BK406 := Aside0.mk (hbox); have GW406 := Aside0.mk ((Z2_ : w.heap.size ≤ gb406)); have GE406 := Aside0.mk ((Z2_ : w.heap.size ≤ gb406)); have NB405_406 := Aside0.mk ((by rw [hg]; exact Nat.ne_of_lt (blk_lt (B1_ BK405.out)) : gb405 ≠ gb406)); have NB406_405 := Aside0.mk ((by rw [hg]; exact Nat.ne_of_gt (blk_lt (B1_ BK405.out)) : gb406 ≠ gb405)); replace BK405 := yB_ BK405 hb; replace HB := y2_ hb; clear hb hbox hg))
 (try simp only [Act.put, sA_, sZ_, sS_])
 go_cut [14] (fun v14 wc => ∃ (kq : Nat) (x14_4 : Bool), v14 = .bool x14_4 ∧ Aside0 (pantryref12_may.j0 kq a2 a3 x14_4 a0_0 a0_1 a0_2 a0_3 a0_4 a0_5 a0_6 a0_7 a0_8 a0_9 a1_0 a1_1 a1_2 a1_3 a1_4 a1_5 a1_6 a1_7 a1_8 a1_9 = some r) ∧ Aside0 (kq ≤ k) ∧ Aside0 (wc.heap[gb405]? = some (.cells #[.bool a0_0, .bool a0_1, .bool a0_2, .bool a0_3, .bool a0_4, .bool a0_5, .int .i64 a0_6, .int .i64 a0_7, .int .i64 a0_8, .int .i64 a0_9] 64 (0, 0))) ∧ Aside0 (wc.heap[gb406]? = some (.cells #[.bool a1_0, .bool a1_1, .bool a1_2, .bool a1_3, .bool a1_4, .bool a1_5, .int .i64 a1_6, .int .i64 a1_7, .int .i64 a1_8, .int .i64 a1_9] 64 (0, 0))) ∧ Aside0 (Below w.heap.size w wc))
 case first =>
  have H := HC5.out
  clear HC5
  by_cases c8 : a0_1 = true
  ·
   subst c8
   rw [if_pos rfl] at H
   have H' := Aside0.mk H
   clear H
   have hnb9 := NB405_406.out
   have hnc9 := NB406_405.out
   obtain ⟨z10_0, z10_1, z10_2, z10_3, z10_4, z10_5, z10_6, z10_7, z10_8, z10_9, y10_0, y10_1, y10_2, y10_3, y10_4, y10_5, y10_6, y10_7, y10_8, y10_9⟩ := cz10_ BK405.out
   go_wp2
   go_meet
   case rel => exact ⟨_, (true), E3_, H', ⟨by first | omega | exact Nat.le_refl _⟩, ⟨B1_ BK405.out⟩, ⟨B1_ BK406.out⟩, ⟨W2_⟩⟩
  ·
   replace c8 := Bool.eq_false_iff.mpr c8
   subst c8
   rw [if_neg (show ¬ (false = true) by decide)] at H
   have H' := Aside0.mk H
   clear H
   have hnb11 := NB405_406.out
   have hnc11 := NB406_405.out
   obtain ⟨z12_0, z12_1, z12_2, z12_3, z12_4, z12_5, z12_6, z12_7, z12_8, z12_9, y12_0, y12_1, y12_2, y12_3, y12_4, y12_5, y12_6, y12_7, y12_8, y12_9⟩ := cz10_ BK405.out
   obtain ⟨z13_0, z13_1, z13_2, z13_3, z13_4, z13_5, z13_6, z13_7, z13_8, z13_9, y13_0, y13_1, y13_2, y13_3, y13_4, y13_5, y13_6, y13_7, y13_8, y13_9⟩ := cz10_ BK406.out
   go_wp2
   go_meet
   case rel => exact ⟨_, (a1_1), E3_, H', ⟨by first | omega | exact Nat.le_refl _⟩, ⟨B1_ BK405.out⟩, ⟨B1_ BK406.out⟩, ⟨W2_⟩⟩
 case rest =>
  clear HC5
  (try clear c8); (try clear z10_0 z10_1 z10_2 z10_3 z10_4 z10_5 z10_6 z10_7 z10_8 z10_9 y10_0 y10_1 y10_2 y10_3 y10_4 y10_5 y10_6 y10_7 y10_8 y10_9); (try clear z12_0 z12_1 z12_2 z12_3 z12_4 z12_5 z12_6 z12_7 z12_8 z12_9 y12_0 y12_1 y12_2 y12_3 y12_4 y12_5 y12_6 y12_7 y12_8 y12_9); (try clear z13_0 z13_1 z13_2 z13_3 z13_4 z13_5 z13_6 z13_7 z13_8 z13_9 y13_0 y13_1 y13_2 y13_3 y13_4 y13_5 y13_6 y13_7 y13_8 y13_9)
  obtain ⟨kq, x14_4, rfl, HA, HJ4, BK405, BK406, HB⟩ := hcut
  cases kq with
  | zero => exact absurd HA.out (by simp [pantryref12_may.j0])
  | succ kj4 =>
   have H := HA.out
   clear HA
   simp only [pantryref12_may.j0] at H
   by_cases c14 : x14_4 = true
   ·
    subst c14
    rw [if_pos rfl] at H
    obtain rfl := Option.some.inj H
    go_wp2
    go_ret
    exact ⟨E1_, W2_⟩
   ·
    replace c14 := Bool.eq_false_iff.mpr c14
    subst c14
    rw [if_neg (show ¬ (false = true) by decide)] at H
    have HC15 := Aside0.mk H
    clear H
    go_upto_region 3 with (fail)
    go_cut [23] (fun v23 wc => ∃ (kq : Nat) (x23_14 : Bool), v23 = .bool x23_14 ∧ Aside0 (pantryref12_may.j1 kq a2 a3 x23_14 a0_0 a0_1 a0_2 a0_3 a0_4 a0_5 a0_6 a0_7 a0_8 a0_9 a1_0 a1_1 a1_2 a1_3 a1_4 a1_5 a1_6 a1_7 a1_8 a1_9 = some r) ∧ Aside0 (kq ≤ kj4) ∧ Aside0 (wc.heap[gb405]? = some (.cells #[.bool a0_0, .bool a0_1, .bool a0_2, .bool a0_3, .bool a0_4, .bool a0_5, .int .i64 a0_6, .int .i64 a0_7, .int .i64 a0_8, .int .i64 a0_9] 64 (0, 0))) ∧ Aside0 (wc.heap[gb406]? = some (.cells #[.bool a1_0, .bool a1_1, .bool a1_2, .bool a1_3, .bool a1_4, .bool a1_5, .int .i64 a1_6, .int .i64 a1_7, .int .i64 a1_8, .int .i64 a1_9] 64 (0, 0))) ∧ Aside0 (Below w.heap.size w wc))
    case first =>
     have H := HC15.out
     clear HC15
     by_cases c16 : a0_6 ≥ 0
     ·
      rw [if_pos c16] at H
      have c16b0 : decide (0 ≤ a0_6) = true := decide_eq_true c16
      clear c16
      (first | rw [c16b0] | (simp only [i64_w, i32_w]; rw [c16b0]) | skip)
      have H' := Aside0.mk H
      clear H
      have hnb17 := NB405_406.out
      have hnc17 := NB406_405.out
      obtain ⟨z18_0, z18_1, z18_2, z18_3, z18_4, z18_5, z18_6, z18_7, z18_8, z18_9, y18_0, y18_1, y18_2, y18_3, y18_4, y18_5, y18_6, y18_7, y18_8, y18_9⟩ := cz10_ BK405.out
      go_wp2
      go_meet
      case rel => exact ⟨_, (decide (a2 > a0_6)), E3_, H', ⟨by have := HJ4.out; first | omega | exact Nat.le_refl _⟩, ⟨B1_ BK405.out⟩, ⟨B1_ BK406.out⟩, ⟨W2_⟩⟩
     ·
      rw [if_neg c16] at H
      have c16b0 : decide (0 ≤ a0_6) = false := decide_eq_false c16
      clear c16
      (first | rw [c16b0] | (simp only [i64_w, i32_w]; rw [c16b0]) | skip)
      have H' := Aside0.mk H
      clear H
      have hnb19 := NB405_406.out
      have hnc19 := NB406_405.out
      obtain ⟨z20_0, z20_1, z20_2, z20_3, z20_4, z20_5, z20_6, z20_7, z20_8, z20_9, y20_0, y20_1, y20_2, y20_3, y20_4, y20_5, y20_6, y20_7, y20_8, y20_9⟩ := cz10_ BK405.out
      go_wp2
      go_meet
      case rel => exact ⟨_, (false), E3_, H', ⟨by have := HJ4.out; first | omega | exact Nat.le_refl _⟩, ⟨B1_ BK405.out⟩, ⟨B1_ BK406.out⟩, ⟨W2_⟩⟩
    case rest =>
     clear HC15
     (try clear c8); (try clear c14); (try clear c16); (try clear c16b0); (try clear z10_0 z10_1 z10_2 z10_3 z10_4 z10_5 z10_6 z10_7 z10_8 z10_9 y10_0 y10_1 y10_2 y10_3 y10_4 y10_5 y10_6 y10_7 y10_8 y10_9); (try clear z12_0 z12_1 z12_2 z12_3 z12_4 z12_5 z12_6 z12_7 z12_8 z12_9 y12_0 y12_1 y12_2 y12_3 y12_4 y12_5 y12_6 y12_7 y12_8 y12_9); (try clear z13_0 z13_1 z13_2 z13_3 z13_4 z13_5 z13_6 z13_7 z13_8 z13_9 y13_0 y13_1 y13_2 y13_3 y13_4 y13_5 y13_6 y13_7 y13_8 y13_9); (try clear z18_0 z18_1 z18_2 z18_3 z18_4 z18_5 z18_6 z18_7 z18_8 z18_9 y18_0 y18_1 y18_2 y18_3 y18_4 y18_5 y18_6 y18_7 y18_8 y18_9); (try clear z20_0 z20_1 z20_2 z20_3 z20_4 z20_5 z20_6 z20_7 z20_8 z20_9 y20_0 y20_1 y20_2 y20_3 y20_4 y20_5 y20_6 y20_7 y20_8 y20_9)
     obtain ⟨kq, x23_14, rfl, HA, HJ14, BK405, BK406, HB⟩ := hcut
     cases kq with
     | zero => exact absurd HA.out (by simp [pantryref12_may.j1])
     | succ kj14 =>
      have H := HA.out
      clear HA
      simp only [pantryref12_may.j1] at H
      by_cases c21 : x23_14 = true
      ·
       subst c21
       rw [if_pos rfl] at H
       obtain rfl := Option.some.inj H
       go_wp2
       go_ret
       exact ⟨E1_, W2_⟩
      ·
       replace c21 := Bool.eq_false_iff.mpr c21
       subst c21
       rw [if_neg (show ¬ (false = true) by decide)] at H
       have HC22 := Aside0.mk H
       clear H
       go_upto_region 5 with (fail)
       go_cut [39] (fun v39 wc => ∃ (kq : Nat) (x39_21 : Bool), v39 = .bool x39_21 ∧ Aside0 (pantryref12_may.j2 kq a2 a3 x39_21 a0_0 a0_1 a0_2 a0_3 a0_4 a0_5 a0_6 a0_7 a0_8 a0_9 a1_0 a1_1 a1_2 a1_3 a1_4 a1_5 a1_6 a1_7 a1_8 a1_9 = some r) ∧ Aside0 (kq ≤ kj14) ∧ Aside0 (wc.heap[gb405]? = some (.cells #[.bool a0_0, .bool a0_1, .bool a0_2, .bool a0_3, .bool a0_4, .bool a0_5, .int .i64 a0_6, .int .i64 a0_7, .int .i64 a0_8, .int .i64 a0_9] 64 (0, 0))) ∧ Aside0 (wc.heap[gb406]? = some (.cells #[.bool a1_0, .bool a1_1, .bool a1_2, .bool a1_3, .bool a1_4, .bool a1_5, .int .i64 a1_6, .int .i64 a1_7, .int .i64 a1_8, .int .i64 a1_9] 64 (0, 0))) ∧ Aside0 (Below w.heap.size w wc))
       case first =>
        have H := HC22.out
        clear HC22
        by_cases c23 : a2 < a3
        ·
         rw [if_pos c23] at H
         have c23b0 : decide (a2 < a3) = true := decide_eq_true c23
         clear c23
         (first | rw [c23b0] | (simp only [i64_w, i32_w]; rw [c23b0]) | skip)
         by_cases c24 : a0_8 < 0
         ·
          rw [if_pos c24] at H
          have c24b0 : decide (a0_8 < 0) = true := decide_eq_true c24
          clear c24
          have H' := Aside0.mk H
          clear H
          have hnb25 := NB405_406.out
          have hnc25 := NB406_405.out
          obtain ⟨z26_0, z26_1, z26_2, z26_3, z26_4, z26_5, z26_6, z26_7, z26_8, z26_9, y26_0, y26_1, y26_2, y26_3, y26_4, y26_5, y26_6, y26_7, y26_8, y26_9⟩ := cz10_ BK405.out
          go_wp2
          go_meet
          case rel => exact ⟨_, (true), E3_, H', ⟨by have := HJ4.out; have := HJ14.out; first | omega | exact Nat.le_refl _⟩, ⟨B1_ BK405.out⟩, ⟨B1_ BK406.out⟩, ⟨W2_⟩⟩
         ·
          rw [if_neg c24] at H
          have c24b0 : decide (a0_8 < 0) = false := decide_eq_false c24
          clear c24
          have H' := Aside0.mk H
          clear H
          have hnb27 := NB405_406.out
          have hnc27 := NB406_405.out
          obtain ⟨z28_0, z28_1, z28_2, z28_3, z28_4, z28_5, z28_6, z28_7, z28_8, z28_9, y28_0, y28_1, y28_2, y28_3, y28_4, y28_5, y28_6, y28_7, y28_8, y28_9⟩ := cz10_ BK405.out
          go_wp2
          go_meet
          case rel => exact ⟨_, (decide (a3 ≥ (wrap64 (a2 + a0_8)))), E3_, H', ⟨by have := HJ4.out; have := HJ14.out; first | omega | exact Nat.le_refl _⟩, ⟨B1_ BK405.out⟩, ⟨B1_ BK406.out⟩, ⟨W2_⟩⟩
        ·
         rw [if_neg c23] at H
         have c23b0 : decide (a2 < a3) = false := decide_eq_false c23
         clear c23
         (first | rw [c23b0] | (simp only [i64_w, i32_w]; rw [c23b0]) | skip)
         have H' := Aside0.mk H
         clear H
         go_wp2
         go_meet
         case rel => exact ⟨_, (false), E3_, H', ⟨by have := HJ4.out; have := HJ14.out; first | omega | exact Nat.le_refl _⟩, ⟨B1_ BK405.out⟩, ⟨B1_ BK406.out⟩, ⟨W2_⟩⟩
       case rest =>
        clear HC22
        (try clear c8); (try clear c14); (try clear c16); (try clear c16b0); (try clear c21); (try clear c23); (try clear c23b0); (try clear c24); (try clear c24b0); (try clear z10_0 z10_1 z10_2 z10_3 z10_4 z10_5 z10_6 z10_7 z10_8 z10_9 y10_0 y10_1 y10_2 y10_3 y10_4 y10_5 y10_6 y10_7 y10_8 y10_9); (try clear z12_0 z12_1 z12_2 z12_3 z12_4 z12_5 z12_6 z12_7 z12_8 z12_9 y12_0 y12_1 y12_2 y12_3 y12_4 y12_5 y12_6 y12_7 y12_8 y12_9); (try clear z13_0 z13_1 z13_2 z13_3 z13_4 z13_5 z13_6 z13_7 z13_8 z13_9 y13_0 y13_1 y13_2 y13_3 y13_4 y13_5 y13_6 y13_7 y13_8 y13_9); (try clear z18_0 z18_1 z18_2 z18_3 z18_4 z18_5 z18_6 z18_7 z18_8 z18_9 y18_0 y18_1 y18_2 y18_3 y18_4 y18_5 y18_6 y18_7 y18_8 y18_9); (try clear z20_0 z20_1 z20_2 z20_3 z20_4 z20_5 z20_6 z20_7 z20_8 z20_9 y20_0 y20_1 y20_2 y20_3 y20_4 y20_5 y20_6 y20_7 y20_8 y20_9); (try clear z26_0 z26_1 z26_2 z26_3 z26_4 z26_5 z26_6 z26_7 z26_8 z26_9 y26_0 y26_1 y26_2 y26_3 y26_4 y26_5 y26_6 y26_7 y26_8 y26_9); (try clear z28_0 z28_1 z28_2 z28_3 z28_4 z28_5 z28_6 z28_7 z28_8 z28_9 y28_0 y28_1 y28_2 y28_3 y28_4 y28_5 y28_6 y28_7 y28_8 y28_9)
        obtain ⟨kq, x39_21, rfl, HA, HJ21, BK405, BK406, HB⟩ := hcut
        cases kq with
        | zero => exact absurd HA.out (by simp [pantryref12_may.j2])
        | succ kj21 =>
         have H := HA.out
         clear HA
         simp only [pantryref12_may.j2] at H
         by_cases c29 : x39_21 = true
         ·
          subst c29
          rw [if_pos rfl] at H
          obtain rfl := Option.some.inj H
          go_wp2
          go_ret
          exact ⟨E1_, W2_⟩
         ·
          replace c29 := Bool.eq_false_iff.mpr c29
          subst c29
          rw [if_neg (show ¬ (false = true) by decide)] at H
          by_cases c30 : a0_9 < 0
          ·
           rw [if_pos c30] at H
           have c30b0 : decide (a0_9 < 0) = true := decide_eq_true c30
           clear c30
           obtain rfl := Option.some.inj H
           have hnb31 := NB405_406.out
           have hnc31 := NB406_405.out
           obtain ⟨z32_0, z32_1, z32_2, z32_3, z32_4, z32_5, z32_6, z32_7, z32_8, z32_9, y32_0, y32_1, y32_2, y32_3, y32_4, y32_5, y32_6, y32_7, y32_8, y32_9⟩ := cz10_ BK405.out
           go_wp2
           go_ret
           exact ⟨E1_, W2_⟩
          ·
           rw [if_neg c30] at H
           have c30b0 : decide (a0_9 < 0) = false := decide_eq_false c30
           clear c30
           by_cases c33 : a0_8 ≥ 0
           ·
            rw [if_pos c33] at H
            have c33b0 : decide (0 ≤ a0_8) = true := decide_eq_true c33
            clear c33
            obtain rfl := Option.some.inj H
            have hnb34 := NB405_406.out
            have hnc34 := NB406_405.out
            obtain ⟨z35_0, z35_1, z35_2, z35_3, z35_4, z35_5, z35_6, z35_7, z35_8, z35_9, y35_0, y35_1, y35_2, y35_3, y35_4, y35_5, y35_6, y35_7, y35_8, y35_9⟩ := cz10_ BK405.out
            go_wp2
            go_ret
            exact ⟨E1_, W2_⟩
           ·
            rw [if_neg c33] at H
            have c33b0 : decide (0 ≤ a0_8) = false := decide_eq_false c33
            clear c33
            by_cases c36 : a1_4 = true
            ·
             subst c36
             rw [if_pos rfl] at H
             obtain rfl := Option.some.inj H
             have hnb37 := NB405_406.out
             have hnc37 := NB406_405.out
             obtain ⟨z38_0, z38_1, z38_2, z38_3, z38_4, z38_5, z38_6, z38_7, z38_8, z38_9, y38_0, y38_1, y38_2, y38_3, y38_4, y38_5, y38_6, y38_7, y38_8, y38_9⟩ := cz10_ BK405.out
             obtain ⟨z39_0, z39_1, z39_2, z39_3, z39_4, z39_5, z39_6, z39_7, z39_8, z39_9, y39_0, y39_1, y39_2, y39_3, y39_4, y39_5, y39_6, y39_7, y39_8, y39_9⟩ := cz10_ BK406.out
             go_wp2
             go_ret
             exact ⟨E1_, W2_⟩
            ·
             replace c36 := Bool.eq_false_iff.mpr c36
             subst c36
             rw [if_neg (show ¬ (false = true) by decide)] at H
             by_cases c40 : a1_7 ≥ 0
             ·
              rw [if_pos c40] at H
              have c40b0 : decide (0 ≤ a1_7) = true := decide_eq_true c40
              clear c40
              obtain rfl := Option.some.inj H
              have hnb41 := NB405_406.out
              have hnc41 := NB406_405.out
              obtain ⟨z42_0, z42_1, z42_2, z42_3, z42_4, z42_5, z42_6, z42_7, z42_8, z42_9, y42_0, y42_1, y42_2, y42_3, y42_4, y42_5, y42_6, y42_7, y42_8, y42_9⟩ := cz10_ BK405.out
              obtain ⟨z43_0, z43_1, z43_2, z43_3, z43_4, z43_5, z43_6, z43_7, z43_8, z43_9, y43_0, y43_1, y43_2, y43_3, y43_4, y43_5, y43_6, y43_7, y43_8, y43_9⟩ := cz10_ BK406.out
              go_wp2
              go_ret
              exact ⟨E1_, W2_⟩
             ·
              rw [if_neg c40] at H
              have c40b0 : decide (0 ≤ a1_7) = false := decide_eq_false c40
              clear c40
              obtain rfl := Option.some.inj H
              have hnb44 := NB405_406.out
              have hnc44 := NB406_405.out
              obtain ⟨z45_0, z45_1, z45_2, z45_3, z45_4, z45_5, z45_6, z45_7, z45_8, z45_9, y45_0, y45_1, y45_2, y45_3, y45_4, y45_5, y45_6, y45_7, y45_8, y45_9⟩ := cz10_ BK405.out
              obtain ⟨z46_0, z46_1, z46_2, z46_3, z46_4, z46_5, z46_6, z46_7, z46_8, z46_9, y46_0, y46_1, y46_2, y46_3, y46_4, y46_5, y46_6, y46_7, y46_8, y46_9⟩ := cz10_ BK406.out
              go_wp2
              go_ret
              exact ⟨E1_, W2_⟩

end Go.Proofs.YtgpekljckdgggaaGreatDoor.PAll
