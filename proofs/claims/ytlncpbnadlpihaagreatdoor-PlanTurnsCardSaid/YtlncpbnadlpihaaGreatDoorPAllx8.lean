import Derived.Deep.Cut
import Derived.Deep.CutRange
import Derived.Deep.CutBlock
import Derived.Test.YtlncpbnadlpihaaGreatDoorPAllx0
import Derived.Test.YtlncpbnadlpihaaGreatDoorPAllx5
import Derived.Test.YtlncpbnadlpihaaGreatDoorPAllx6
import Derived.Test.YtlncpbnadlpihaaGreatDoorPAllx7
namespace Go.Proofs.YtlncpbnadlpihaaGreatDoor.PAll
open Go.RowKit Go.Proofs.YtlncpbnadlpihaaGreatDoorW.PrintWords Go.Proofs.YtlncpbnadlpihaaGreatDoorW.PrintLast Go.Proofs.YtlncpbnadlpihaaGreatDoorW.PrintMore
attribute [local go_sem] max2_int min2_int max_two min_two max_three min_three max_four min_four   -- for this text's walks alone
set_option linter.unusedVariables false
set_option linter.unusedSimpArgs false

/-! ### plan_Table_Next: function 18 -/
mutual
def plan_Table_Next.j0 : Nat → Bool → Int → List (S59) → List (S57) → Option (Int × (List (S59)) × (List (S40)) × Int)
 | 0, _, _, _, _ => none
 | k + 1, x24, x194000, x194001, x195000 => if x24 = true then (some (0, ([] : List (S59)), ([] : List (S40)), 10)) else (plan_Table_Next.l0 k x195000 (x195000.length : Int) 0 x194000 x194001 x195000 (wrap64 (x194000 + 1)) ([] : List (S59)))
def plan_Table_Next.l0 : Nat → List (S57) → Int → Int → Int → List (S59) → List (S57) → Int → List (S59) → Option (Int × (List (S59)) × (List (S40)) × Int)
 | 0, _, _, _, _, _, _, _, _ => none
 | k + 1, x31, x32, x33, x194000, x194001, x195000, x199000, x199001 => if x33 < x32 then (if 0 ≤ x33 then (if x33 < (x31.length : Int) then ((plan_Table_Find.f k x194000 x194001 ((rd_T57 x31 x33).f0)).bind fun bt207 => (if bt207.2.2.2.2.2.2.2.2 = true then ((plan_same.f k bt207.1 bt207.2.1 bt207.2.2.1 bt207.2.2.2.1 bt207.2.2.2.2.1 bt207.2.2.2.2.2.1 bt207.2.2.2.2.2.2.1 ((rd_T57 x31 x33).f0) ((rd_T57 x31 x33).f1) ((rd_T57 x31 x33).f2) ((rd_T57 x31 x33).f3) ((rd_T57 x31 x33).f4) ((rd_T57 x31 x33).f5) ((rd_T57 x31 x33).f6)).bind fun t219 => (if t219 = true then ((slices_Clone_string_string.f ((rd_T57 x31 x33).f6)).bind fun t220 => (if x199001.length < 1759218604441 then (plan_Table_Next.l0 k x31 x32 (wrap64 (x33 + 1)) x194000 x194001 x195000 x199000 (x199001 ++ [(⟨(⟨(rd_T57 x31 x33).f0, (rd_T57 x31 x33).f1, (rd_T57 x31 x33).f2, (rd_T57 x31 x33).f3, (rd_T57 x31 x33).f4, (rd_T57 x31 x33).f5, t220⟩ : S57), bt207.2.2.2.2.2.2.2.1⟩ : S59)])) else (none))) else ((slices_Clone_string_string.f ((rd_T57 x31 x33).f6)).bind fun t226 => (if x199001.length < 1759218604441 then (plan_Table_Next.l0 k x31 x32 (wrap64 (x33 + 1)) x194000 x194001 x195000 x199000 (x199001 ++ [(⟨(⟨(rd_T57 x31 x33).f0, (rd_T57 x31 x33).f1, (rd_T57 x31 x33).f2, (rd_T57 x31 x33).f3, (rd_T57 x31 x33).f4, (rd_T57 x31 x33).f5, t226⟩ : S57), x199000⟩ : S59)])) else (none))))) else ((slices_Clone_string_string.f ((rd_T57 x31 x33).f6)).bind fun t232 => (if x199001.length < 1759218604441 then (plan_Table_Next.l0 k x31 x32 (wrap64 (x33 + 1)) x194000 x194001 x195000 x199000 (x199001 ++ [(⟨(⟨(rd_T57 x31 x33).f0, (rd_T57 x31 x33).f1, (rd_T57 x31 x33).f2, (rd_T57 x31 x33).f3, (rd_T57 x31 x33).f4, (rd_T57 x31 x33).f5, t232⟩ : S57), x199000⟩ : S59)])) else (none))))) else (none)) else (none)) else ((plan_Table_Config.f k x194000 x194001).bind fun t199 => ((plan_diff.f k t199 x195000).bind fun t202 => (some (x199000, x199001, t202, 0))))
end
def plan_Table_Next.f (k : Nat) (a0_0 : Int) (l0_1 : List (S59)) (l1_0 : List (S57)) : Option (Int × (List (S59)) × (List (S40)) × Int) := (plan_Table_Right.f k a0_0 l0_1).bind fun t196 => (if t196 = true then ((conf_Config_Right.f k l1_0).bind fun t197 => (if t197 = true then (plan_Table_Next.j0 k (a0_0 == 253402300799) a0_0 l0_1 l1_0) else (plan_Table_Next.j0 k true a0_0 l0_1 l1_0))) else (plan_Table_Next.j0 k true a0_0 l0_1 l1_0))
theorem plan_Table_Next.mono_l : ∀ k, (∀ y0 y1 y2 y3, LeO (plan_Table_Next.j0 k y0 y1 y2 y3) (plan_Table_Next.j0 (k + 1) y0 y1 y2 y3)) ∧ (∀ y0 y1 y2 y3 y4 y5 y6 y7, LeO (plan_Table_Next.l0 k y0 y1 y2 y3 y4 y5 y6 y7) (plan_Table_Next.l0 (k + 1) y0 y1 y2 y3 y4 y5 y6 y7))
 | 0 => ⟨fun _ _ _ _ r h => by simp [plan_Table_Next.j0] at h, fun _ _ _ _ _ _ _ _ r h => by simp [plan_Table_Next.l0] at h⟩
 | k + 1 => by
  obtain ⟨ih0, ih1⟩ := plan_Table_Next.mono_l k
  refine ⟨?_, ?_⟩
  ·
   intro y0 y1 y2 y3
   unfold plan_Table_Next.j0
   repeat' (with_reducible first | exact ih0 _ _ _ _ | exact ih1 _ _ _ _ _ _ _ _ | exact conf_Config_Right.mono _ _ | exact plan_Table_Config.mono _ _ _ | exact plan_Table_Find.mono _ _ _ _ | exact plan_Table_Right.mono _ _ _ | exact plan_diff.mono _ _ _ | exact plan_same.mono _ _ _ _ _ _ _ _ _ _ _ _ _ _ _ | exact lR_ | refine LeO.ite ?_ ?_ | refine LeO.bind ?_ (fun _ => ?_))
  ·
   intro y0 y1 y2 y3 y4 y5 y6 y7
   unfold plan_Table_Next.l0
   repeat' (with_reducible first | exact ih0 _ _ _ _ | exact ih1 _ _ _ _ _ _ _ _ | exact conf_Config_Right.mono _ _ | exact plan_Table_Config.mono _ _ _ | exact plan_Table_Find.mono _ _ _ _ | exact plan_Table_Right.mono _ _ _ | exact plan_diff.mono _ _ _ | exact plan_same.mono _ _ _ _ _ _ _ _ _ _ _ _ _ _ _ | exact lR_ | refine LeO.ite ?_ ?_ | refine LeO.bind ?_ (fun _ => ?_))
theorem plan_Table_Next.mono : ∀ a0 a1 a2 k, LeO (plan_Table_Next.f k a0 a1 a2) (plan_Table_Next.f (k + 1) a0 a1 a2) := by
 intro a0 a1 a2 k
 obtain ⟨ih0, ih1⟩ := plan_Table_Next.mono_l k
 unfold plan_Table_Next.f
 repeat' (with_reducible first | exact ih0 _ _ _ _ | exact ih1 _ _ _ _ _ _ _ _ | exact conf_Config_Right.mono _ _ | exact plan_Table_Config.mono _ _ _ | exact plan_Table_Find.mono _ _ _ _ | exact plan_Table_Right.mono _ _ _ | exact plan_diff.mono _ _ _ | exact plan_same.mono _ _ _ _ _ _ _ _ _ _ _ _ _ _ _ | exact lR_ | refine LeO.ite ?_ ?_ | refine LeO.bind ?_ (fun _ => ?_))
def plan_Table_Next.T14 : Bool × List (List Nat × List Nat) := (true, [([], []), ([], []), ([1], [1]), ([], []), ([2, 3, 2], [2, 3]), ([0, 4, 0], [0]), ([4, 5, 0, 1, 2, 3, 4, 5], [4]), ([6, 0, 1, 2, 3, 4, 5, 6], [])])
def plan_Table_Next.B14 : List Nat := [0, 0, 2, 0, 14, 31, 63, 127]
theorem plan_Table_Next.tab14 : rtab .any (opsOf Tryz.f18 14) = plan_Table_Next.T14 := by kernel_rfl
theorem plan_Table_Next.bits14 : waitsOk plan_Table_Next.T14.2 plan_Table_Next.B14 = true := by kernel_rfl
set_option maxHeartbeats 8000000 in
set_option maxRecDepth 100000 in
theorem plan_Table_Next.calls (k : Nat) (a0_0 : Int) (A0_1 : Option Addr) (c0_1 : Nat) (l0_1 : List (S59)) (A1_0 : Option Addr) (c1_0 : Nat) (l1_0 : List (S57)) (r1 : Int) (r2 : List (S59)) (r3 : List (S40)) (r4 : Int) (w : World) (hr0_1 : Kd.C k59 w A0_1 l0_1.length l0_1) (hc0_1 : l0_1.length ≤ c0_1) (hr1_0 : Kd.C k57 w A1_0 l1_0.length l1_0) (hc1_0 : l1_0.length ≤ c1_0) (h : plan_Table_Next.f k a0_0 l0_1 l1_0 = some (r1, r2, r3, r4)) :
  Calls Tryz.prog 18 #[.agg #[.int .i64 a0_0, .slice A0_1 l0_1.length c0_1], .agg #[.slice A1_0 l1_0.length c1_0]] w fun e w' => ∃ v1_ v2_ : Value, e = .returned (.tuple #[.agg #[.int .i64 r1, v1_], v2_, .int .i64 r4]) ∧ Kd.S k59 59 w' w.heap.size (fun _ => True) v1_ r2 ∧ Kd.R k40 40 w' w.heap.size (fun _ => True) v2_ r3 ∧ Below w.heap.size w w' := by
 have hu44 := Tryz.underlying44
 have hu24 := Tryz.underlying24
 have hu57 := Tryz.underlying57
 have hu59 := Tryz.underlying59
 have HR0_1 := Aside0.mk hr0_1
 have HC0_1 := Aside0.mk hc0_1
 clear hr0_1 hc0_1
 have HR1_0 := Aside0.mk hr1_0
 have HC1_0 := Aside0.mk hc1_0
 clear hr1_0 hc1_0
 have HB := Aside0.mk (Below.refl w.heap.size w)
 have H : ((plan_Table_Right.f k a0_0 l0_1).bind fun t196 => (if t196 = true then ((conf_Config_Right.f k l1_0).bind fun t197 => (if t197 = true then (plan_Table_Next.j0 k (a0_0 == 253402300799) a0_0 l0_1 l1_0) else (plan_Table_Next.j0 k true a0_0 l0_1 l1_0))) else (plan_Table_Next.j0 k true a0_0 l0_1 l1_0))) = some (r1, r2, r3, r4) := h
 clear h
 have HC3 := Aside0.mk H
 clear H
 go_enter Tryz.func18, Tryz.ntmps18
 go_upto_region 1 with (first | ((with_reducible refine gate_dst (N := 2) rfl ?_); refine box_event ?hg (N := 2) ?hd (cs := #[.int .i64 a0_0, .slice A0_1 l0_1.length c0_1]) (t := 44) ?hr ?_; (case hd | hg => rfl); (case hr => exact S1_); intro gb193 hg w4 hbox hb; have BK193 := Aside0.mk (hbox); have GW193 := Aside0.mk ((Z1_ : w.heap.size ≤ gb193)); have GE193 := Aside0.mk ((Z1_ : w.heap.size ≤ gb193)); replace HB := y1_ hb; clear hb hbox hg) | ((with_reducible refine gate_dst (N := 3) rfl ?_); refine box_event ?hg (N := 3) ?hd (cs := #[.slice A1_0 l1_0.length c1_0]) (t := 24) ?hr ?_; (case hd | hg => rfl); (case hr => exact S1_); intro gb194 hg w5 hbox hb; have BK194 := Aside0.mk (hbox); have GW194 := Aside0.mk ((Z2_ : w.heap.size ≤ gb194)); have GE194 := Aside0.mk ((Z2_ : w.heap.size ≤ gb194)); have NB193_194 := Aside0.mk ((by rw [hg]; exact Nat.ne_of_lt (blk_lt (B1_ BK193.out)) : gb193 ≠ gb194)); have NB194_193 := Aside0.mk ((by rw [hg]; exact Nat.ne_of_gt (blk_lt (B1_ BK193.out)) : gb194 ≠ gb193)); replace BK193 := yB_ BK193 hb; replace HB := y2_ hb; clear hb hbox hg) | ((with_reducible refine gate_dst (N := 4) rfl ?_); refine box_event ?hg (N := 4) ?hd (cs := #[.int .i64 0, .slice none 0 0]) (t := 44) ?hr ?_; (case hd | hg => rfl); (case hr => exact S1_); intro gb195 hg w6 hbox hb; have BK195 := Aside0.mk (hbox); have GW195 := Aside0.mk ((Z2_ : w.heap.size ≤ gb195)); have GE195 := Aside0.mk ((Z2_ : w.heap.size ≤ gb195)); have NB193_195 := Aside0.mk ((by rw [hg]; exact Nat.ne_of_lt (blk_lt (B1_ BK193.out)) : gb193 ≠ gb195)); have NB195_193 := Aside0.mk ((by rw [hg]; exact Nat.ne_of_gt (blk_lt (B1_ BK193.out)) : gb195 ≠ gb193)); have NB194_195 := Aside0.mk ((by rw [hg]; exact Nat.ne_of_lt (blk_lt (B1_ BK194.out)) : gb194 ≠ gb195)); have NB195_194 := Aside0.mk ((by rw [hg]; exact Nat.ne_of_gt (blk_lt (B1_ BK194.out)) : gb195 ≠ gb194)); replace BK193 := yB_ BK193 hb; replace BK194 := yB_ BK194 hb; replace HB := y2_ hb; clear hb hbox hg))
 (try simp only [Act.put, sA_, sZ_, sS_])
 go_cut [24] (fun v24 wc => ∃ (kq : Nat) (x24_2 : Bool), v24 = .bool x24_2 ∧ Aside0 (plan_Table_Next.j0 kq x24_2 a0_0 l0_1 l1_0 = some (r1, r2, r3, r4)) ∧ Aside0 (kq ≤ k) ∧ Aside0 (wc.heap[gb193]? = some (.cells #[.int .i64 a0_0, (.slice A0_1 l0_1.length c0_1)] 44 (0, 0))) ∧ Aside0 (wc.heap[gb194]? = some (.cells #[(.slice A1_0 l1_0.length c1_0)] 24 (0, 0))) ∧ Aside0 (wc.heap[gb195]? = some (.cells #[.int .i64 0, (.slice none 0 0)] 44 (0, 0))) ∧ Aside0 (Below w.heap.size w wc))
 case first =>
  have H := HC3.out
  clear HC3
  obtain ⟨t196, A7, H⟩ := bS_ H
  try dsimp only at H
  by_cases c8 : t196 = true
  ·
   subst c8
   rw [if_pos rfl] at H
   obtain ⟨t197, A9, H⟩ := bS_ H
   try dsimp only at H
   by_cases c10 : t197 = true
   ·
    subst c10
    rw [if_pos rfl] at H
    have H' := Aside0.mk H
    clear H
    have hnb11 := NB193_194.out
    have hnc11 := NB194_193.out
    have hnb12 := NB193_195.out
    have hnc12 := NB195_193.out
    obtain ⟨z13_0, z13_1, y13_0, y13_1⟩ := cz2_ BK193.out
    go_wp2_with (first | ((with_reducible refine gate_callee (f := 19) rfl ?_); refine goesL_ (some 13) rfl rfl Tryz.func19 (by kernel_rfl) rfl #[.agg #[.int .i64 a0_0, .slice A0_1 l0_1.length c0_1]] rfl T1_ ?_; (with_reducible refine (plan_Table_Right.calls k a0_0 _ _ l0_1 true _ ?side1 ?side2 A7.out).mono ?_); (case side1 => exact C1_ ((Kd.C_below HR0_1.out HB.out))); (case side2 => exact HC0_1.out); rintro e w14 ⟨rfl, hb⟩; refine ⟨_, rfl, ?_⟩; replace BK193 := yB_ BK193 hb; replace BK194 := yB_ BK194 hb; replace BK195 := yB_ BK195 hb; replace HB := y2_ hb; (try clear hb); have hnb15 := NB194_195.out; have hnc15 := NB195_194.out; obtain ⟨z16_0, y16_0⟩ := cz1_ BK194.out) | (go_at_call 15; (with_reducible refine (conf_Config_Right.calls k _ _ l1_0 true _ ?side1 ?side2 A9.out).mono ?_); (case side1 => exact C1_ ((Kd.C_below HR1_0.out HB.out))); (case side2 => exact HC1_0.out); rintro e w17 ⟨rfl, hb⟩; replace BK193 := yB_ BK193 hb; replace BK194 := yB_ BK194 hb; replace BK195 := yB_ BK195 hb; replace HB := y2_ hb; (try clear hb); obtain ⟨z18_0, z18_1, y18_0, y18_1⟩ := cz2_ BK193.out))
    go_meet
    case rel => exact ⟨_, ((a0_0 == 253402300799)), E3_, H', ⟨by first | omega | exact Nat.le_refl _⟩, ⟨B1_ BK193.out⟩, ⟨B1_ BK194.out⟩, ⟨B1_ BK195.out⟩, ⟨W2_⟩⟩
   ·
    replace c10 := Bool.eq_false_iff.mpr c10
    subst c10
    rw [if_neg (show ¬ (false = true) by decide)] at H
    have H' := Aside0.mk H
    clear H
    have hnb19 := NB193_194.out
    have hnc19 := NB194_193.out
    have hnb20 := NB193_195.out
    have hnc20 := NB195_193.out
    obtain ⟨z21_0, z21_1, y21_0, y21_1⟩ := cz2_ BK193.out
    go_wp2_with (first | ((with_reducible refine gate_callee (f := 19) rfl ?_); refine goesL_ (some 13) rfl rfl Tryz.func19 (by kernel_rfl) rfl #[.agg #[.int .i64 a0_0, .slice A0_1 l0_1.length c0_1]] rfl T1_ ?_; (with_reducible refine (plan_Table_Right.calls k a0_0 _ _ l0_1 true _ ?side1 ?side2 A7.out).mono ?_); (case side1 => exact C1_ ((Kd.C_below HR0_1.out HB.out))); (case side2 => exact HC0_1.out); rintro e w22 ⟨rfl, hb⟩; refine ⟨_, rfl, ?_⟩; replace BK193 := yB_ BK193 hb; replace BK194 := yB_ BK194 hb; replace BK195 := yB_ BK195 hb; replace HB := y2_ hb; (try clear hb); have hnb23 := NB194_195.out; have hnc23 := NB195_194.out; obtain ⟨z24_0, y24_0⟩ := cz1_ BK194.out) | (go_at_call 15; (with_reducible refine (conf_Config_Right.calls k _ _ l1_0 false _ ?side1 ?side2 A9.out).mono ?_); (case side1 => exact C1_ ((Kd.C_below HR1_0.out HB.out))); (case side2 => exact HC1_0.out); rintro e w25 ⟨rfl, hb⟩; replace BK193 := yB_ BK193 hb; replace BK194 := yB_ BK194 hb; replace BK195 := yB_ BK195 hb; replace HB := y2_ hb; (try clear hb)))
    go_meet
    case rel => exact ⟨_, (true), E3_, H', ⟨by first | omega | exact Nat.le_refl _⟩, ⟨B1_ BK193.out⟩, ⟨B1_ BK194.out⟩, ⟨B1_ BK195.out⟩, ⟨W2_⟩⟩
  ·
   replace c8 := Bool.eq_false_iff.mpr c8
   subst c8
   rw [if_neg (show ¬ (false = true) by decide)] at H
   have H' := Aside0.mk H
   clear H
   have hnb26 := NB193_194.out
   have hnc26 := NB194_193.out
   have hnb27 := NB193_195.out
   have hnc27 := NB195_193.out
   obtain ⟨z28_0, z28_1, y28_0, y28_1⟩ := cz2_ BK193.out
   go_wp2_with (first | ((with_reducible refine gate_callee (f := 19) rfl ?_); refine goesL_ (some 13) rfl rfl Tryz.func19 (by kernel_rfl) rfl #[.agg #[.int .i64 a0_0, .slice A0_1 l0_1.length c0_1]] rfl T1_ ?_; (with_reducible refine (plan_Table_Right.calls k a0_0 _ _ l0_1 false _ ?side1 ?side2 A7.out).mono ?_); (case side1 => exact C1_ ((Kd.C_below HR0_1.out HB.out))); (case side2 => exact HC0_1.out); rintro e w29 ⟨rfl, hb⟩; refine ⟨_, rfl, ?_⟩; replace BK193 := yB_ BK193 hb; replace BK194 := yB_ BK194 hb; replace BK195 := yB_ BK195 hb; replace HB := y2_ hb; (try clear hb)))
   go_meet
   case rel => exact ⟨_, (true), E3_, H', ⟨by first | omega | exact Nat.le_refl _⟩, ⟨B1_ BK193.out⟩, ⟨B1_ BK194.out⟩, ⟨B1_ BK195.out⟩, ⟨W2_⟩⟩
 case rest =>
  clear HC3
  (try clear c8); (try clear c10); (try clear z13_0 z13_1 y13_0 y13_1); (try clear z16_0 y16_0); (try clear z18_0 z18_1 y18_0 y18_1); (try clear z21_0 z21_1 y21_0 y21_1); (try clear z24_0 y24_0); (try clear z28_0 z28_1 y28_0 y28_1)
  obtain ⟨kq, x24_2, rfl, HA, HJ2, BK193, BK194, BK195, HB⟩ := hcut
  cases kq with
  | zero => exact absurd HA.out (by simp [plan_Table_Next.j0])
  | succ kj2 =>
   have H := HA.out
   clear HA
   simp only [plan_Table_Next.j0] at H
   by_cases c30 : x24_2 = true
   ·
    subst c30
    rw [if_pos rfl] at H
    simp only [Option.some.injEq, Prod.mk.injEq] at H
    obtain ⟨rfl, rfl, rfl, rfl⟩ := H
    have hnb31 := NB195_193.out
    have hnc31 := NB193_195.out
    have hnb32 := NB195_194.out
    have hnc32 := NB194_195.out
    obtain ⟨z33_0, z33_1, y33_0, y33_1⟩ := cz2_ BK195.out
    go_wp2
    refine bodyPost_ret (results_ctt rfl _ _ gb195 44 #[.int .i64 0, .slice none 0 0] (0, 0) _ rfl (G1_ BK195.out) Tryz.underlying44 rfl (by kernel_rfl)) rfl ?_
    exact ⟨_, _, E1_, by first | exact Kd.S_nil _ _ _ _ _ | exact Kd.N_nil _ _ _ _ _ | exact Kd.V_nil _ _ _ _ _ | exact Kd.Q_nil _ _ _ _ _ | exact Kd.R_nil _ _ _ _ _, by first | exact Kd.R_nil _ _ _ _ _ | exact Kd.N_nil _ _ _ _ _ | exact Kd.V_nil _ _ _ _ _ | exact Kd.Q_nil _ _ _ _ _ | exact Kd.S_nil _ _ _ _ _, W2_⟩
   ·
    replace c30 := Bool.eq_false_iff.mpr c30
    subst c30
    rw [if_neg (show ¬ (false = true) by decide)] at H
    have H' := Aside0.mk H
    clear H
    have hnb34 := NB193_194.out
    have hnc34 := NB194_193.out
    have hnb35 := NB193_195.out
    have hnc35 := NB195_193.out
    obtain ⟨z36_0, z36_1, y36_0, y36_1⟩ := cz2_ BK193.out
    go_wp2_with (first | ((with_reducible refine gate_dst (N := 7) rfl ?_); refine box_event ?hg (N := 7) ?hd (cs := #[.int .i64 0, .slice none 0 0]) (t := 44) ?hr ?_; (case hd | hg => rfl); (case hr => exact S1_); intro gb198 hg w37 hbox hb; have BK198 := Aside0.mk (hbox); have GW198 := Aside0.mk ((Z2_ : w.heap.size ≤ gb198)); have GE198 := Aside0.mk ((Z2_ : w.heap.size ≤ gb198)); have NB193_198 := Aside0.mk ((by rw [hg]; exact Nat.ne_of_lt (blk_lt (B1_ BK193.out)) : gb193 ≠ gb198)); have NB198_193 := Aside0.mk ((by rw [hg]; exact Nat.ne_of_gt (blk_lt (B1_ BK193.out)) : gb198 ≠ gb193)); have NB194_198 := Aside0.mk ((by rw [hg]; exact Nat.ne_of_lt (blk_lt (B1_ BK194.out)) : gb194 ≠ gb198)); have NB198_194 := Aside0.mk ((by rw [hg]; exact Nat.ne_of_gt (blk_lt (B1_ BK194.out)) : gb198 ≠ gb194)); have NB195_198 := Aside0.mk ((by rw [hg]; exact Nat.ne_of_lt (blk_lt (B1_ BK195.out)) : gb195 ≠ gb198)); have NB198_195 := Aside0.mk ((by rw [hg]; exact Nat.ne_of_gt (blk_lt (B1_ BK195.out)) : gb198 ≠ gb195)); replace BK193 := yB_ BK193 hb; replace BK194 := yB_ BK194 hb; replace BK195 := yB_ BK195 hb; replace HB := y2_ hb; clear hb hbox hg; have hnb38 := NB198_193.out; have hnc38 := NB193_198.out; have hnb39 := NB198_194.out; have hnc39 := NB194_198.out; have hnb40 := NB198_195.out; have hnc40 := NB195_198.out; obtain ⟨z41_0, z41_1, y41_0, y41_1⟩ := cz2_ BK198.out; have hnb42 := NB194_195.out; have hnc42 := NB195_194.out; obtain ⟨z43_0, y43_0⟩ := cz1_ BK194.out))
    go_loopg [33] kj2 (fun kq v33 w' => ∃ (x33_2 : Int) (x199001_2 : List (S59)) (u199001 : Value), v33 = .int .i64 x33_2 ∧ Aside0 (plan_Table_Next.l0 kq l1_0 (l1_0.length : Int) x33_2 a0_0 l0_1 l1_0 (wrap64 (a0_0 + 1)) x199001_2 = some (r1, r2, r3, r4)) ∧ Aside0 (kq ≤ kj2) ∧ Aside0 (Kd.S k59 59 w' w.heap.size (fun _ => True) u199001 x199001_2) ∧ Aside0 (w'.heap[gb193]? = some (.cells #[.int .i64 a0_0, (.slice A0_1 l0_1.length c0_1)] 44 (0, 0))) ∧ Aside0 (w'.heap[gb194]? = some (.cells #[(.slice A1_0 l1_0.length c1_0)] 24 (0, 0))) ∧ Aside0 (w'.heap[gb195]? = some (.cells #[.int .i64 0, (.slice none 0 0)] 44 (0, 0))) ∧ Aside0 (w'.heap[gb198]? = some (.cells #[.int .i64 (wrap64 (a0_0 + 1)), u199001] 44 (0, 0))) ∧ Aside0 (Below w.heap.size w w'))
    case atStart => exact ⟨(0), (([] : List (S59))), (.slice none 0 0), E3_, H', ⟨Nat.le_refl _⟩, ⟨by first | exact Kd.S_nil _ _ _ _ _ | exact Kd.N_nil _ _ _ _ _ | exact Kd.V_nil _ _ _ _ _ | exact Kd.Q_nil _ _ _ _ _ | exact Kd.R_nil _ _ _ _ _⟩, ⟨G1_ BK193.out⟩, ⟨G1_ BK194.out⟩, ⟨G1_ BK195.out⟩, ⟨G1_ BK198.out⟩, ⟨W2_⟩⟩
    case round =>
     clear H'
     (try clear c8); (try clear c10); (try clear c30); (try clear z13_0 z13_1 y13_0 y13_1); (try clear z16_0 y16_0); (try clear z18_0 z18_1 y18_0 y18_1); (try clear z21_0 z21_1 y21_0 y21_1); (try clear z24_0 y24_0); (try clear z28_0 z28_1 y28_0 y28_1); (try clear z33_0 z33_1 y33_0 y33_1); (try clear z36_0 z36_1 y36_0 y36_1); (try clear z41_0 z41_1 y41_0 y41_1); (try clear z43_0 y43_0)
     obtain ⟨x33_2, x199001_2, u199001, rfl, HA, HK2, HO_199001, BK193, BK194, BK195, BK198, HB⟩ := hrel
     cases gk with
     | zero => exact absurd HA.out (by simp [plan_Table_Next.l0])
     | succ k2 =>
      have H := HA.out
      clear HA
      simp only [plan_Table_Next.l0] at H
      by_cases c44 : x33_2 < (l1_0.length : Int)
      ·
       rw [if_pos c44] at H
       have c44b0 : decide (x33_2 < (l1_0.length : Int)) = true := decide_eq_true c44
       clear c44
       by_cases c45 : 0 ≤ x33_2
       ·
        rw [if_pos c45] at H
        have c45b0 : decide (0 ≤ x33_2) = true := decide_eq_true c45
        clear c45
        by_cases c46 : x33_2 < (l1_0.length : Int)
        ·
         rw [if_pos c46] at H
         have c46b0 : decide (x33_2 < (l1_0.length : Int)) = true := decide_eq_true c46
         clear c46
         obtain ⟨⟨t207, t208, t209, t210, t211, t212, t213, t216, t217⟩, A47, H⟩ := bS_ H
         try dsimp only at H
         by_cases c48 : t217 = true
         ·
          subst c48
          rw [if_pos rfl] at H
          obtain ⟨t219, A49, H⟩ := bS_ H
          try dsimp only at H
          by_cases c50 : t219 = true
          ·
           subst c50
           rw [if_pos rfl] at H
           obtain ⟨t220, A51, H⟩ := bS_ H
           try dsimp only at H
           by_cases c52 : x199001_2.length < 1759218604441
           ·
            rw [if_pos c52] at H
            have LMc52 := Aside0.mk c52
            clear c52
            obtain ⟨y223, hy223⟩ : ∃ y_ : List (S59), y_ = (x199001_2 ++ [(⟨(⟨(rd_T57 l1_0 x33_2).f0, (rd_T57 l1_0 x33_2).f1, (rd_T57 l1_0 x33_2).f2, (rd_T57 l1_0 x33_2).f3, (rd_T57 l1_0 x33_2).f4, (rd_T57 l1_0 x33_2).f5, t220⟩ : S57), t216⟩ : S59)]) := ⟨_, rfl⟩
            replace H : (plan_Table_Next.l0 k2 l1_0 (l1_0.length : Int) (wrap64 (x33_2 + 1)) a0_0 l0_1 l1_0 (wrap64 (a0_0 + 1)) y223) = some (r1, r2, r3, r4) := by first | (rw [hy223]; with_reducible exact H) | (have H2_ := (Option.bind_some _ _).symm.trans H; rw [hy223]; with_reducible exact H2_) | (have H2_ := (Option.bind_some _ _).symm.trans H; with_reducible exact H2_) | with_reducible exact H | (rw [hy223]; exact H) | exact H
            have Ny223 := Aside0.mk hy223
            clear hy223
            have H' := Aside0.mk H
            clear H
            have p205 : 0 ≤ (x33_2 : Int) := oA_
            have q205 : x33_2 < (l1_0.length : Int) := oA_
            obtain ⟨ad205, A205_6, c205_6, e205, hx205_0, hx205_1, hx205_2, hx205_3, hx205_4, hx205_5, hx205_6, hl205_6, hi205_6⟩ := at_T57 HR1_0.out x33_2 p205 q205
            cases e205
            replace hx205_0 := (HB.out.cell (World.block_lt_of_cell? w _ hx205_0)).trans hx205_0
            replace hx205_1 := (HB.out.cell (World.block_lt_of_cell? w _ hx205_1)).trans hx205_1
            replace hx205_2 := (HB.out.cell (World.block_lt_of_cell? w _ hx205_2)).trans hx205_2
            replace hx205_3 := (HB.out.cell (World.block_lt_of_cell? w _ hx205_3)).trans hx205_3
            replace hx205_4 := (HB.out.cell (World.block_lt_of_cell? w _ hx205_4)).trans hx205_4
            replace hx205_5 := (HB.out.cell (World.block_lt_of_cell? w _ hx205_5)).trans hx205_5
            replace hx205_6 := (HB.out.cell (World.block_lt_of_cell? w _ hx205_6)).trans hx205_6
            have HR205_6 := Aside0.mk hi205_6
            have HC205_6 := Aside0.mk hl205_6
            clear hi205_6 hl205_6
            replace p205 := eq_true p205
            replace q205 := eq_true q205
            go_wp2_with (first | ((with_reducible refine gate_dst (N := 9) rfl ?_); refine box_event ?hg (N := 9) ?hd (cs := #[.string (⟨#[]⟩ : ByteArray), .int .i64 0, .int .i64 0, .int .i64 0, .bool false, .bool false, .slice none 0 0]) (t := 57) ?hr ?_; (case hd | hg => rfl); (case hr => exact S1_); intro gb206 hg w53 hbox hb; have BK206 := Aside0.mk (hbox); have GW206 := Aside0.mk ((Z2_ : w.heap.size ≤ gb206)); have GE206 := Aside0.mk ((Z2_ : w.heap.size ≤ gb206)); have NB193_206 := Aside0.mk ((by rw [hg]; exact Nat.ne_of_lt (blk_lt (B1_ BK193.out)) : gb193 ≠ gb206)); have NB206_193 := Aside0.mk ((by rw [hg]; exact Nat.ne_of_gt (blk_lt (B1_ BK193.out)) : gb206 ≠ gb193)); have NB194_206 := Aside0.mk ((by rw [hg]; exact Nat.ne_of_lt (blk_lt (B1_ BK194.out)) : gb194 ≠ gb206)); have NB206_194 := Aside0.mk ((by rw [hg]; exact Nat.ne_of_gt (blk_lt (B1_ BK194.out)) : gb206 ≠ gb194)); have NB195_206 := Aside0.mk ((by rw [hg]; exact Nat.ne_of_lt (blk_lt (B1_ BK195.out)) : gb195 ≠ gb206)); have NB206_195 := Aside0.mk ((by rw [hg]; exact Nat.ne_of_gt (blk_lt (B1_ BK195.out)) : gb206 ≠ gb195)); have NB198_206 := Aside0.mk ((by rw [hg]; exact Nat.ne_of_lt (blk_lt (B1_ BK198.out)) : gb198 ≠ gb206)); have NB206_198 := Aside0.mk ((by rw [hg]; exact Nat.ne_of_gt (blk_lt (B1_ BK198.out)) : gb206 ≠ gb198)); replace HO_199001 := Aside0.mk (Kd.S_below (by (with_reducible repeat (first | apply Kd.S_alloc | apply Kd.S_drewN | apply Kd.S_drew)); exact HO_199001.out) hb); replace BK193 := yB_ BK193 hb; replace BK194 := yB_ BK194 hb; replace BK195 := yB_ BK195 hb; replace BK198 := yB_ BK198 hb; replace HB := y2_ hb; clear hb hbox hg; have hnb54 := NB206_193.out; have hnc54 := NB193_206.out; have hnb55 := NB206_194.out; have hnc55 := NB194_206.out; have hnb56 := NB206_195.out; have hnc56 := NB195_206.out; have hnb57 := NB206_198.out; have hnc57 := NB198_206.out; obtain ⟨z58_0, z58_1, z58_2, z58_3, z58_4, z58_5, z58_6, y58_0, y58_1, y58_2, y58_3, y58_4, y58_5, y58_6⟩ := cz7_ BK206.out; have hnb59 := NB193_194.out; have hnc59 := NB194_193.out; have hnb60 := NB193_195.out; have hnc60 := NB195_193.out; have hnb61 := NB193_198.out; have hnc61 := NB198_193.out; obtain ⟨z62_0, z62_1, y62_0, y62_1⟩ := cz2_ BK193.out) | ((with_reducible refine gate_callee (f := 24) rfl ?_); refine goesL_ (some 41) rfl rfl Tryz.func24 (by kernel_rfl) rfl #[.agg #[.int .i64 a0_0, .slice A0_1 l0_1.length c0_1], .string ((rd_T57 l1_0 x33_2).f0)] rfl T1_ ?_; (with_reducible refine (plan_Table_Find.calls k2 a0_0 _ _ l0_1 ((rd_T57 l1_0 x33_2).f0) t207 t208 t209 t210 t211 t212 t213 t216 true _ ?side1 ?side2 A47.out).mono ?_); (case side1 => exact Kd.C_below HR0_1.out W2_); (case side2 => exact HC0_1.out); rintro e w63 ⟨v214, rfl, ho0, hb⟩; refine ⟨_, rfl, ?_⟩; replace HO_199001 := Aside0.mk (Kd.S_elder' (by (with_reducible repeat (first | apply Kd.S_alloc | apply Kd.S_drewN | apply Kd.S_drew)); exact (Kd.S_mono (Kd.S_far (p := ⟨gb206, 6, none⟩) (Kd.S_far (p := ⟨gb206, 5, none⟩) (Kd.S_far (p := ⟨gb206, 4, none⟩) (Kd.S_far (p := ⟨gb206, 3, none⟩) (Kd.S_far (p := ⟨gb206, 2, none⟩) (Kd.S_far (p := ⟨gb206, 1, none⟩) (Kd.S_far (p := ⟨gb206, 0, none⟩) (Kd.S_types HO_199001.out BK206.out (by decide)) (fun _ hk => hk.2) (.string ((rd_T57 l1_0 x33_2).f0))) (fun _ hk => hk.2) (.int .i64 ((rd_T57 l1_0 x33_2).f1))) (fun _ hk => hk.2) (.int .i64 ((rd_T57 l1_0 x33_2).f2))) (fun _ hk => hk.2) (.int .i64 ((rd_T57 l1_0 x33_2).f3))) (fun _ hk => hk.2) (.bool ((rd_T57 l1_0 x33_2).f4))) (fun _ hk => hk.2) (.bool ((rd_T57 l1_0 x33_2).f5))) (fun _ hk => hk.2) (.slice A205_6 ((rd_T57 l1_0 x33_2).f6).length c205_6)) (fun _ h_ => h_.1))) (Kd.R_base ho0) hb); have HO215 := Aside0.mk (Kd.R_lower ho0 (below_size W2_)); replace BK193 := Aside0.mk (blk_below (g := gb193) (o := .cells #[.int .i64 a0_0, .slice A0_1 l0_1.length c0_1] 44 (0, 0)) (G1_ BK193.out) hb); replace BK194 := Aside0.mk (blk_below (g := gb194) (o := .cells #[.slice (some ad205) l1_0.length c1_0] 24 (0, 0)) (G1_ BK194.out) hb); replace BK195 := Aside0.mk (blk_below (g := gb195) (o := .cells #[.int .i64 0, .slice none 0 0] 44 (0, 0)) (G1_ BK195.out) hb); replace BK198 := Aside0.mk (blk_below (g := gb198) (o := .cells #[.int .i64 (wrap64 (a0_0 + 1)), u199001] 44 (0, 0)) (G1_ BK198.out) hb); replace BK206 := Aside0.mk (blk_below (g := gb206) (o := .cells #[.string ((rd_T57 l1_0 x33_2).f0), .int .i64 ((rd_T57 l1_0 x33_2).f1), .int .i64 ((rd_T57 l1_0 x33_2).f2), .int .i64 ((rd_T57 l1_0 x33_2).f3), .bool ((rd_T57 l1_0 x33_2).f4), .bool ((rd_T57 l1_0 x33_2).f5), .slice A205_6 ((rd_T57 l1_0 x33_2).f6).length c205_6] 57 (0, 0)) (G1_ BK206.out) hb); replace HB := y2_ hb; (try clear hb); (try clear hk); (try clear ho0)) | ((with_reducible refine gate_dst (N := 10) rfl ?_); refine box_event ?hg (N := 10) ?hd (cs := #[.string (⟨#[]⟩ : ByteArray), .int .i64 0, .int .i64 0, .int .i64 0, .bool false, .bool false, .slice none 0 0, .int .i64 0]) (t := 59) ?hr ?_; (case hd | hg => rfl); (case hr => exact S1_); intro gb218 hg w64 hbox hb; have BK218 := Aside0.mk (hbox); have GW218 := Aside0.mk ((Z2_ : w.heap.size ≤ gb218)); have GE218 := Aside0.mk ((Z2_ : w.heap.size ≤ gb218)); have NB193_218 := Aside0.mk ((by rw [hg]; exact Nat.ne_of_lt (blk_lt (B1_ BK193.out)) : gb193 ≠ gb218)); have NB218_193 := Aside0.mk ((by rw [hg]; exact Nat.ne_of_gt (blk_lt (B1_ BK193.out)) : gb218 ≠ gb193)); have NB194_218 := Aside0.mk ((by rw [hg]; exact Nat.ne_of_lt (blk_lt (B1_ BK194.out)) : gb194 ≠ gb218)); have NB218_194 := Aside0.mk ((by rw [hg]; exact Nat.ne_of_gt (blk_lt (B1_ BK194.out)) : gb218 ≠ gb194)); have NB195_218 := Aside0.mk ((by rw [hg]; exact Nat.ne_of_lt (blk_lt (B1_ BK195.out)) : gb195 ≠ gb218)); have NB218_195 := Aside0.mk ((by rw [hg]; exact Nat.ne_of_gt (blk_lt (B1_ BK195.out)) : gb218 ≠ gb195)); have NB198_218 := Aside0.mk ((by rw [hg]; exact Nat.ne_of_lt (blk_lt (B1_ BK198.out)) : gb198 ≠ gb218)); have NB218_198 := Aside0.mk ((by rw [hg]; exact Nat.ne_of_gt (blk_lt (B1_ BK198.out)) : gb218 ≠ gb198)); have NB206_218 := Aside0.mk ((by rw [hg]; exact Nat.ne_of_lt (blk_lt (B1_ BK206.out)) : gb206 ≠ gb218)); have NB218_206 := Aside0.mk ((by rw [hg]; exact Nat.ne_of_gt (blk_lt (B1_ BK206.out)) : gb218 ≠ gb206)); replace HO_199001 := Aside0.mk (Kd.S_below (Kd.S_elderB (by (with_reducible repeat (first | apply Kd.S_alloc | apply Kd.S_drewN | apply Kd.S_drew)); exact HO_199001.out) gb218 (Nat.le_of_eq hg.symm)) hb); replace HO215 := Aside0.mk (Kd.R_below (R1_ HO215.out) hb); replace BK193 := yB_ BK193 hb; replace BK194 := yB_ BK194 hb; replace BK195 := yB_ BK195 hb; replace BK198 := yB_ BK198 hb; replace BK206 := yB_ BK206 hb; replace HB := y2_ hb; clear hb hbox hg; have hnb65 := NB218_193.out; have hnc65 := NB193_218.out; have hnb66 := NB218_194.out; have hnc66 := NB194_218.out; have hnb67 := NB218_195.out; have hnc67 := NB195_218.out; have hnb68 := NB218_198.out; have hnc68 := NB198_218.out; have hnb69 := NB218_206.out; have hnc69 := NB206_218.out; obtain ⟨z70_0, z70_1, z70_2, z70_3, z70_4, z70_5, z70_6, z70_7, y70_0, y70_1, y70_2, y70_3, y70_4, y70_5, y70_6, y70_7⟩ := cz8_ BK218.out; obtain ⟨Ao71, co71, eo71⟩ := Kd.R_slice HO215.out; subst eo71; obtain ⟨z72_0, z72_1, z72_2, z72_3, z72_4, z72_5, z72_6, y72_0, y72_1, y72_2, y72_3, y72_4, y72_5, y72_6⟩ := cz7_ BK206.out) | (go_at_call 39; (with_reducible refine (plan_same.calls k2 t207 t208 t209 t210 t211 t212 _ _ t213 ((rd_T57 l1_0 x33_2).f0) ((rd_T57 l1_0 x33_2).f1) ((rd_T57 l1_0 x33_2).f2) ((rd_T57 l1_0 x33_2).f3) ((rd_T57 l1_0 x33_2).f4) ((rd_T57 l1_0 x33_2).f5) _ _ ((rd_T57 l1_0 x33_2).f6) true _ ?side1 ?side2 ?side3 ?side4 A49.out).mono ?_); (case side1 => refine (Kd.R_reads' (e := 9) (base := w.heap.size) (ok := fun k_ => True) (n := t213.length) (c := co71) ?_).2.2; exact (by refine R1_ ?_; exact (Kd.R_mono (Kd.R_far (p := ⟨gb218, 7, none⟩) (Kd.R_far (p := ⟨gb218, 6, none⟩) (Kd.R_far (p := ⟨gb218, 5, none⟩) (Kd.R_far (p := ⟨gb218, 4, none⟩) (Kd.R_far (p := ⟨gb218, 3, none⟩) (Kd.R_far (p := ⟨gb218, 2, none⟩) (Kd.R_far (p := ⟨gb218, 1, none⟩) (Kd.R_far (p := ⟨gb218, 0, none⟩) (Kd.R_types HO215.out BK218.out (by decide)) (fun _ hk => hk.2) (.string t207)) (fun _ hk => hk.2) (.int .i64 t208)) (fun _ hk => hk.2) (.int .i64 t209)) (fun _ hk => hk.2) (.int .i64 t210)) (fun _ hk => hk.2) (.bool t211)) (fun _ hk => hk.2) (.bool t212)) (fun _ hk => hk.2) (.slice Ao71 t213.length co71)) (fun _ hk => hk.2) (.int .i64 t216)) (fun _ h_ => h_.1)))); (case side2 => exact (Kd.R_reads' HO215.out).2.1); (case side3 => exact Kd.C_below HR205_6.out W2_); (case side4 => exact HC205_6.out); rintro e w73 ⟨rfl, hb⟩; replace HO_199001 := Aside0.mk (Kd.S_below (by (with_reducible repeat (first | apply Kd.S_alloc | apply Kd.S_drewN | apply Kd.S_drew)); exact (Kd.S_mono (Kd.S_far (p := ⟨gb218, 7, none⟩) (Kd.S_far (p := ⟨gb218, 6, none⟩) (Kd.S_far (p := ⟨gb218, 5, none⟩) (Kd.S_far (p := ⟨gb218, 4, none⟩) (Kd.S_far (p := ⟨gb218, 3, none⟩) (Kd.S_far (p := ⟨gb218, 2, none⟩) (Kd.S_far (p := ⟨gb218, 1, none⟩) (Kd.S_far (p := ⟨gb218, 0, none⟩) (Kd.S_mono HO_199001.out (fun k_ hk => (⟨hk, hk.2⟩ : _ ∧ k_ ≠ gb218))) (fun _ hk => hk.2) (.string t207)) (fun _ hk => hk.2) (.int .i64 t208)) (fun _ hk => hk.2) (.int .i64 t209)) (fun _ hk => hk.2) (.int .i64 t210)) (fun _ hk => hk.2) (.bool t211)) (fun _ hk => hk.2) (.bool t212)) (fun _ hk => hk.2) (.slice Ao71 t213.length co71)) (fun _ hk => hk.2) (.int .i64 t216)) (fun _ h_ => h_.1))) hb); replace HO215 := Aside0.mk (Kd.R_below (by refine R1_ ?_; exact (Kd.R_mono (Kd.R_far (p := ⟨gb218, 7, none⟩) (Kd.R_far (p := ⟨gb218, 6, none⟩) (Kd.R_far (p := ⟨gb218, 5, none⟩) (Kd.R_far (p := ⟨gb218, 4, none⟩) (Kd.R_far (p := ⟨gb218, 3, none⟩) (Kd.R_far (p := ⟨gb218, 2, none⟩) (Kd.R_far (p := ⟨gb218, 1, none⟩) (Kd.R_far (p := ⟨gb218, 0, none⟩) (Kd.R_types HO215.out BK218.out (by decide)) (fun _ hk => hk.2) (.string t207)) (fun _ hk => hk.2) (.int .i64 t208)) (fun _ hk => hk.2) (.int .i64 t209)) (fun _ hk => hk.2) (.int .i64 t210)) (fun _ hk => hk.2) (.bool t211)) (fun _ hk => hk.2) (.bool t212)) (fun _ hk => hk.2) (.slice Ao71 t213.length co71)) (fun _ hk => hk.2) (.int .i64 t216)) (fun _ h_ => h_.1))) hb); replace BK193 := Aside0.mk (blk_below (g := gb193) (o := .cells #[.int .i64 a0_0, .slice A0_1 l0_1.length c0_1] 44 (0, 0)) (G1_ BK193.out) hb); replace BK194 := Aside0.mk (blk_below (g := gb194) (o := .cells #[.slice (some ad205) l1_0.length c1_0] 24 (0, 0)) (G1_ BK194.out) hb); replace BK195 := Aside0.mk (blk_below (g := gb195) (o := .cells #[.int .i64 0, .slice none 0 0] 44 (0, 0)) (G1_ BK195.out) hb); replace BK198 := Aside0.mk (blk_below (g := gb198) (o := .cells #[.int .i64 (wrap64 (a0_0 + 1)), u199001] 44 (0, 0)) (G1_ BK198.out) hb); replace BK206 := Aside0.mk (blk_below (g := gb206) (o := .cells #[.string ((rd_T57 l1_0 x33_2).f0), .int .i64 ((rd_T57 l1_0 x33_2).f1), .int .i64 ((rd_T57 l1_0 x33_2).f2), .int .i64 ((rd_T57 l1_0 x33_2).f3), .bool ((rd_T57 l1_0 x33_2).f4), .bool ((rd_T57 l1_0 x33_2).f5), .slice A205_6 ((rd_T57 l1_0 x33_2).f6).length c205_6] 57 (0, 0)) (G1_ BK206.out) hb); replace BK218 := Aside0.mk (blk_below (g := gb218) (o := .cells #[.string t207, .int .i64 t208, .int .i64 t209, .int .i64 t210, .bool t211, .bool t212, .slice Ao71 t213.length co71, .int .i64 t216] 59 (0, 0)) (G1_ BK218.out) hb); replace HB := y2_ hb; (try clear hb); (try clear hk); obtain ⟨z74_0, z74_1, z74_2, z74_3, z74_4, z74_5, z74_6, y74_0, y74_1, y74_2, y74_3, y74_4, y74_5, y74_6⟩ := cz7_ BK206.out) | ((with_reducible refine gate_callee (f := 40) rfl ?_); refine goesL_ (some 58) rfl rfl Tryz.func40 (by kernel_rfl) rfl #[.slice A205_6 ((rd_T57 l1_0 x33_2).f6).length c205_6] rfl T1_ ?_; (with_reducible refine (slices_Clone_string_string.calls _ _ ((rd_T57 l1_0 x33_2).f6) t220 _ ?side1 ?side2 A51.out).mono ?_); (case side1 => exact C1_ ((Kd.C_below HR205_6.out HB.out))); (case side2 => exact HC205_6.out); rintro e w75 ⟨v221, rfl, ho0, hb⟩; refine ⟨_, rfl, ?_⟩; have HO222 := Aside0.mk (Kd.R_lower (Kd.R_new' ho0 (Kd.R_lt (R1_ HO215.out))) (below_size W2_)); replace HO_199001 := Aside0.mk (Kd.S_elder' (by (with_reducible repeat (first | apply Kd.S_alloc | apply Kd.S_drewN | apply Kd.S_drew)); exact HO_199001.out) (Kd.R_base ho0) hb); replace HO215 := Aside0.mk (Kd.R_elder' (R1_ HO215.out) (Kd.R_base ho0) hb); replace BK193 := yB_ BK193 hb; replace BK194 := yB_ BK194 hb; replace BK195 := yB_ BK195 hb; replace BK198 := yB_ BK198 hb; replace BK206 := yB_ BK206 hb; replace BK218 := yB_ BK218 hb; replace HB := y2_ hb; (try clear hb); (try clear ho0); obtain ⟨Ao76, co76, eo76⟩ := Kd.R_slice HO222.out; subst eo76; obtain ⟨z77_0, z77_1, z77_2, z77_3, z77_4, z77_5, z77_6, y77_0, y77_1, y77_2, y77_3, y77_4, y77_5, y77_6⟩ := cz7_ BK206.out) | ((with_reducible refine gate_store (t := 55) (p := 59) rfl ?_); refine store_event (t := 55) (p := 59) (v := ?vo_w78) (w1 := (w75.setCell ⟨gb206, 6, none⟩ (.slice Ao76 t220.length co76))) ?hg ?ho ?hn ?hr ?_; (case ho => rfl); (case hg => rfl); (case hn => rfl); (case hr => first | (go_simp; done) | (go_simp; rfl)); intro w78 hw; have n0_ : Aside0 (Kd.S k59 59 w78 w.heap.size (fun k_ => some k_ ≠ (.slice Ao71 t213.length co71 : Value).ownBlock ∧ some k_ ≠ (.slice Ao76 t220.length co76 : Value).ownBlock ∧ k_ ≠ gb218) u199001 x199001_2) := ⟨(by rw [hw]; exact (by (with_reducible repeat (first | apply Kd.S_alloc | apply Kd.S_drewN | apply Kd.S_drew)); exact Kd.S_mono (Kd.S_far (p := ⟨gb206, 6, none⟩) (Kd.S_types HO_199001.out BK206.out (by decide)) (fun _ hk => hk.2) (.slice Ao76 t220.length co76)) (fun _ hk => by first | exact ⟨hk.1.1.1.2, ⟨hk.1.2, hk.1.1.2⟩⟩ | simp_all)))⟩; have n1_ : Aside0 (Kd.R Kd.string 9 w78 w.heap.size (fun k_ => some k_ ≠ (.slice Ao76 t220.length co76 : Value).ownBlock) (.slice Ao71 t213.length co71) t213) := ⟨(by rw [hw]; exact (by refine R1_ ?_; exact Kd.R_mono (Kd.R_far (p := ⟨gb206, 6, none⟩) (Kd.R_types HO215.out BK206.out (by decide)) (fun _ hk => hk.2) (.slice Ao76 t220.length co76)) (fun _ hk => hk.1.2)))⟩; have n2_ : Aside0 (Kd.R Kd.string 9 w78 w.heap.size (fun k_ => some k_ ≠ (.slice Ao71 t213.length co71 : Value).ownBlock) (.slice Ao76 t220.length co76) t220) := ⟨(by rw [hw]; exact (by refine R1_ ?_; exact Kd.R_mono (Kd.R_far (p := ⟨gb206, 6, none⟩) (Kd.R_types HO222.out BK206.out (by decide)) (fun _ hk => hk.2) (.slice Ao76 t220.length co76)) (fun _ hk => hk.1.2)))⟩; have n3_ : Aside0 (w78.heap[gb193]? = some (.cells #[.int .i64 a0_0, .slice A0_1 l0_1.length c0_1] 44 (0, 0))) := ⟨(by rw [hw]; exact (G1_ BK193.out))⟩; have n4_ : Aside0 (w78.heap[gb194]? = some (.cells #[.slice (some ad205) l1_0.length c1_0] 24 (0, 0))) := ⟨(by rw [hw]; exact (G1_ BK194.out))⟩; have n5_ : Aside0 (w78.heap[gb195]? = some (.cells #[.int .i64 0, .slice none 0 0] 44 (0, 0))) := ⟨(by rw [hw]; exact (G1_ BK195.out))⟩; have n6_ : Aside0 (w78.heap[gb198]? = some (.cells #[.int .i64 (wrap64 (a0_0 + 1)), u199001] 44 (0, 0))) := ⟨(by rw [hw]; exact (G1_ BK198.out))⟩; have n7_ : Aside0 (w78.heap[gb206]? = some (.cells #[.string ((rd_T57 l1_0 x33_2).f0), .int .i64 ((rd_T57 l1_0 x33_2).f1), .int .i64 ((rd_T57 l1_0 x33_2).f2), .int .i64 ((rd_T57 l1_0 x33_2).f3), .bool ((rd_T57 l1_0 x33_2).f4), .bool ((rd_T57 l1_0 x33_2).f5), .slice Ao76 t220.length co76] 57 (0, 0))) := ⟨(by rw [hw]; exact (G1_ BK206.out))⟩; have n8_ : Aside0 (w78.heap[gb218]? = some (.cells #[.string t207, .int .i64 t208, .int .i64 t209, .int .i64 t210, .bool t211, .bool t212, .slice Ao71 t213.length co71, .int .i64 t216] 59 (0, 0))) := ⟨(by rw [hw]; exact (G1_ BK218.out))⟩; have n9_ : Aside0 (Below w.heap.size w w78) := ⟨(by rw [hw]; exact W2_)⟩; clear hw; clear HO_199001; clear HO215; clear HO222; clear BK193; clear BK194; clear BK195; clear BK198; clear BK206; clear BK218; clear HB; have HO_199001 := n0_; have HO215 := n1_; have HO222 := n2_; have BK193 := n3_; have BK194 := n4_; have BK195 := n5_; have BK198 := n6_; have BK206 := n7_; have BK218 := n8_; have HB := n9_; clear n0_ n1_ n2_ n3_ n4_ n5_ n6_ n7_ n8_ n9_; obtain ⟨z79_0, z79_1, z79_2, z79_3, z79_4, z79_5, z79_6, y79_0, y79_1, y79_2, y79_3, y79_4, y79_5, y79_6⟩ := cz7_ BK206.out; obtain ⟨z80_0, z80_1, z80_2, z80_3, z80_4, z80_5, z80_6, z80_7, y80_0, y80_1, y80_2, y80_3, y80_4, y80_5, y80_6, y80_7⟩ := cz8_ BK218.out) | ((with_reducible refine gate_store (t := 57) (p := 61) rfl ?_); refine store_event (t := 57) (p := 61) (v := ?vo_w81) (w1 := (((((((w78.setCell ⟨gb218, 0, none⟩ (.string ((rd_T57 l1_0 x33_2).f0))).setCell ⟨gb218, 1, none⟩ (.int .i64 ((rd_T57 l1_0 x33_2).f1))).setCell ⟨gb218, 2, none⟩ (.int .i64 ((rd_T57 l1_0 x33_2).f2))).setCell ⟨gb218, 3, none⟩ (.int .i64 ((rd_T57 l1_0 x33_2).f3))).setCell ⟨gb218, 4, none⟩ (.bool ((rd_T57 l1_0 x33_2).f4))).setCell ⟨gb218, 5, none⟩ (.bool ((rd_T57 l1_0 x33_2).f5))).setCell ⟨gb218, 6, none⟩ (.slice Ao76 t220.length co76))) ?hg ?ho ?hn ?hr ?_; (case ho => rfl); (case hg => rfl); (case hn => rfl); (case hr => first | (go_simp; done) | (go_simp; rfl)); intro w81 hw; have n0_ : Aside0 (Kd.S k59 59 w81 w.heap.size (fun k_ => some k_ ≠ (.slice Ao71 t213.length co71 : Value).ownBlock ∧ some k_ ≠ (.slice Ao76 t220.length co76 : Value).ownBlock ∧ k_ ≠ gb218) u199001 x199001_2) := ⟨(by rw [hw]; exact (by (with_reducible repeat (first | apply Kd.S_alloc | apply Kd.S_drewN | apply Kd.S_drew)); exact Kd.S_mono (Kd.S_far (p := ⟨gb218, 6, none⟩) (Kd.S_far (p := ⟨gb218, 5, none⟩) (Kd.S_far (p := ⟨gb218, 4, none⟩) (Kd.S_far (p := ⟨gb218, 3, none⟩) (Kd.S_far (p := ⟨gb218, 2, none⟩) (Kd.S_far (p := ⟨gb218, 1, none⟩) (Kd.S_far (p := ⟨gb218, 0, none⟩) (Kd.S_mono HO_199001.out (fun k_ hk => (⟨hk, hk.2.2⟩ : _ ∧ k_ ≠ gb218))) (fun _ hk => hk.2) (.string ((rd_T57 l1_0 x33_2).f0))) (fun _ hk => hk.2) (.int .i64 ((rd_T57 l1_0 x33_2).f1))) (fun _ hk => hk.2) (.int .i64 ((rd_T57 l1_0 x33_2).f2))) (fun _ hk => hk.2) (.int .i64 ((rd_T57 l1_0 x33_2).f3))) (fun _ hk => hk.2) (.bool ((rd_T57 l1_0 x33_2).f4))) (fun _ hk => hk.2) (.bool ((rd_T57 l1_0 x33_2).f5))) (fun _ hk => hk.2) (.slice Ao76 t220.length co76)) (fun _ hk => by first | exact ⟨hk.1.1, ⟨hk.1.2.1, hk.1.2.2⟩⟩ | simp_all)))⟩; have n1_ : Aside0 (Kd.R Kd.string 9 w81 w.heap.size (fun k_ => some k_ ≠ (.slice Ao76 t220.length co76 : Value).ownBlock) (.slice Ao71 t213.length co71) t213) := ⟨(by rw [hw]; exact (by refine R1_ ?_; exact Kd.R_mono (Kd.R_far (p := ⟨gb218, 6, none⟩) (Kd.R_far (p := ⟨gb218, 5, none⟩) (Kd.R_far (p := ⟨gb218, 4, none⟩) (Kd.R_far (p := ⟨gb218, 3, none⟩) (Kd.R_far (p := ⟨gb218, 2, none⟩) (Kd.R_far (p := ⟨gb218, 1, none⟩) (Kd.R_far (p := ⟨gb218, 0, none⟩) (Kd.R_types HO215.out BK218.out (by decide)) (fun _ hk => hk.2) (.string ((rd_T57 l1_0 x33_2).f0))) (fun _ hk => hk.2) (.int .i64 ((rd_T57 l1_0 x33_2).f1))) (fun _ hk => hk.2) (.int .i64 ((rd_T57 l1_0 x33_2).f2))) (fun _ hk => hk.2) (.int .i64 ((rd_T57 l1_0 x33_2).f3))) (fun _ hk => hk.2) (.bool ((rd_T57 l1_0 x33_2).f4))) (fun _ hk => hk.2) (.bool ((rd_T57 l1_0 x33_2).f5))) (fun _ hk => hk.2) (.slice Ao76 t220.length co76)) (fun _ hk => hk.1)))⟩; have n2_ : Aside0 (Kd.R Kd.string 9 w81 w.heap.size (fun k_ => some k_ ≠ (.slice Ao71 t213.length co71 : Value).ownBlock) (.slice Ao76 t220.length co76) t220) := ⟨(by rw [hw]; exact (by refine R1_ ?_; exact Kd.R_mono (Kd.R_far (p := ⟨gb218, 6, none⟩) (Kd.R_far (p := ⟨gb218, 5, none⟩) (Kd.R_far (p := ⟨gb218, 4, none⟩) (Kd.R_far (p := ⟨gb218, 3, none⟩) (Kd.R_far (p := ⟨gb218, 2, none⟩) (Kd.R_far (p := ⟨gb218, 1, none⟩) (Kd.R_far (p := ⟨gb218, 0, none⟩) (Kd.R_types HO222.out BK218.out (by decide)) (fun _ hk => hk.2) (.string ((rd_T57 l1_0 x33_2).f0))) (fun _ hk => hk.2) (.int .i64 ((rd_T57 l1_0 x33_2).f1))) (fun _ hk => hk.2) (.int .i64 ((rd_T57 l1_0 x33_2).f2))) (fun _ hk => hk.2) (.int .i64 ((rd_T57 l1_0 x33_2).f3))) (fun _ hk => hk.2) (.bool ((rd_T57 l1_0 x33_2).f4))) (fun _ hk => hk.2) (.bool ((rd_T57 l1_0 x33_2).f5))) (fun _ hk => hk.2) (.slice Ao76 t220.length co76)) (fun _ hk => hk.1)))⟩; have n3_ : Aside0 (w81.heap[gb193]? = some (.cells #[.int .i64 a0_0, .slice A0_1 l0_1.length c0_1] 44 (0, 0))) := ⟨(by rw [hw]; exact (G1_ BK193.out))⟩; have n4_ : Aside0 (w81.heap[gb194]? = some (.cells #[.slice (some ad205) l1_0.length c1_0] 24 (0, 0))) := ⟨(by rw [hw]; exact (G1_ BK194.out))⟩; have n5_ : Aside0 (w81.heap[gb195]? = some (.cells #[.int .i64 0, .slice none 0 0] 44 (0, 0))) := ⟨(by rw [hw]; exact (G1_ BK195.out))⟩; have n6_ : Aside0 (w81.heap[gb198]? = some (.cells #[.int .i64 (wrap64 (a0_0 + 1)), u199001] 44 (0, 0))) := ⟨(by rw [hw]; exact (G1_ BK198.out))⟩; have n7_ : Aside0 (w81.heap[gb206]? = some (.cells #[.string ((rd_T57 l1_0 x33_2).f0), .int .i64 ((rd_T57 l1_0 x33_2).f1), .int .i64 ((rd_T57 l1_0 x33_2).f2), .int .i64 ((rd_T57 l1_0 x33_2).f3), .bool ((rd_T57 l1_0 x33_2).f4), .bool ((rd_T57 l1_0 x33_2).f5), .slice Ao76 t220.length co76] 57 (0, 0))) := ⟨(by rw [hw]; exact (G1_ BK206.out))⟩; have n8_ : Aside0 (w81.heap[gb218]? = some (.cells #[.string ((rd_T57 l1_0 x33_2).f0), .int .i64 ((rd_T57 l1_0 x33_2).f1), .int .i64 ((rd_T57 l1_0 x33_2).f2), .int .i64 ((rd_T57 l1_0 x33_2).f3), .bool ((rd_T57 l1_0 x33_2).f4), .bool ((rd_T57 l1_0 x33_2).f5), .slice Ao76 t220.length co76, .int .i64 t216] 59 (0, 0))) := ⟨(by rw [hw]; exact (G1_ BK218.out))⟩; have n9_ : Aside0 (Below w.heap.size w w81) := ⟨(by rw [hw]; exact W2_)⟩; clear hw; clear HO_199001; clear HO215; clear HO222; clear BK193; clear BK194; clear BK195; clear BK198; clear BK206; clear BK218; clear HB; have HO_199001 := n0_; have HO215 := n1_; have HO222 := n2_; have BK193 := n3_; have BK194 := n4_; have BK195 := n5_; have BK198 := n6_; have BK206 := n7_; have BK218 := n8_; have HB := n9_; clear n0_ n1_ n2_ n3_ n4_ n5_ n6_ n7_ n8_ n9_; have hnb82 := NB198_194.out; have hnc82 := NB194_198.out; have hnb83 := NB198_195.out; have hnc83 := NB195_198.out; obtain ⟨z84_0, z84_1, y84_0, y84_1⟩ := cz2_ BK198.out; obtain ⟨z85_0, z85_1, z85_2, z85_3, z85_4, z85_5, z85_6, z85_7, y85_0, y85_1, y85_2, y85_3, y85_4, y85_5, y85_6, y85_7⟩ := cz8_ BK218.out) | ((with_reducible refine gate_builtin (b := .append) (xs := #[.tmp 63, .tmp 65]) rfl ?_); at_builtin; refine Kd.S_append k59 (w0 := w) w.heap.size rfl (.tmp 63) (.tmp 65) 42 59 (.agg #[(.string ⟨#[]⟩), (.int .i64 0), (.int .i64 0), (.int .i64 0), (.bool false), (.bool false), (.slice none 0 0), (.int .i64 0)]) 80 rfl Tryz.underlying42 info59 rfl (by decide) (by omega) u199001 x199001_2 (⟨(⟨(rd_T57 l1_0 x33_2).f0, (rd_T57 l1_0 x33_2).f1, (rd_T57 l1_0 x33_2).f2, (rd_T57 l1_0 x33_2).f3, (rd_T57 l1_0 x33_2).f4, (rd_T57 l1_0 x33_2).f5, t220⟩ : S57), t216⟩ : S59) [.string ((rd_T57 l1_0 x33_2).f0), .int .i64 ((rd_T57 l1_0 x33_2).f1), .int .i64 ((rd_T57 l1_0 x33_2).f2), .int .i64 ((rd_T57 l1_0 x33_2).f3), .bool ((rd_T57 l1_0 x33_2).f4), .bool ((rd_T57 l1_0 x33_2).f5), .slice Ao76 t220.length co76, .int .i64 t216] (fun k_ => some k_ ≠ (.slice Ao71 t213.length co71 : Value).ownBlock ∧ k_ ≠ gb218) (fun k_ => some k_ = (.slice Ao76 t220.length co76 : Value).ownBlock) rfl rfl ?aP (fun k_ hk_ => ((Kd.R_mono (ok' := fun k_ => ((fun k_ => some k_ ≠ (.slice Ao71 t213.length co71 : Value).ownBlock ∧ k_ ≠ gb218)) k_ ∧ some k_ ≠ (u199001 : Value).ownBlock) (Kd.R_types (Kd.R_apart' (HO222.out) (Kd.S_typed HO_199001.out) (by decide)) BK218.out (by decide)) (fun k_ hk => ⟨⟨hk.1.1, hk.2⟩, hk.1.2⟩))).1 k_ hk_.symm) ?aF ?aO ?aB ?aS ?aL ?_; (case aP => exact k59_mkM _ _ _ (⟨(⟨(rd_T57 l1_0 x33_2).f0, (rd_T57 l1_0 x33_2).f1, (rd_T57 l1_0 x33_2).f2, (rd_T57 l1_0 x33_2).f3, (rd_T57 l1_0 x33_2).f4, (rd_T57 l1_0 x33_2).f5, t220⟩ : S57), t216⟩ : S59) (Kd.R_mono (Kd.R_tight rfl (Kd.R_mono (ok' := fun k_ => ((fun k_ => some k_ ≠ (.slice Ao71 t213.length co71 : Value).ownBlock ∧ k_ ≠ gb218)) k_ ∧ some k_ ≠ (u199001 : Value).ownBlock) (Kd.R_types (Kd.R_apart' (HO222.out) (Kd.S_typed HO_199001.out) (by decide)) BK218.out (by decide)) (fun k_ hk => ⟨⟨hk.1.1, hk.2⟩, hk.1.2⟩))) (fun _ h_ => h_))); (case aB => exact W2_); (case aF => exact (fun k_ hk => ⟨Kd.fresh' (Kd.R_lt (R1_ HO215.out)) k_ hk, Kd.freshB (g := gb218) (o := .cells #[.string ((rd_T57 l1_0 x33_2).f0), .int .i64 ((rd_T57 l1_0 x33_2).f1), .int .i64 ((rd_T57 l1_0 x33_2).f2), .int .i64 ((rd_T57 l1_0 x33_2).f3), .bool ((rd_T57 l1_0 x33_2).f4), .bool ((rd_T57 l1_0 x33_2).f5), .slice Ao76 t220.length co76, .int .i64 t216] 59 (0, 0)) (B1_ BK218.out) k_ hk⟩)); (case aO => exact (by (with_reducible repeat (first | apply Kd.S_alloc | apply Kd.S_drewN | apply Kd.S_drew)); exact Kd.S_mono HO_199001.out (fun k_ hk => ⟨⟨hk.1, hk.2.2⟩, fun e_ => hk.2.1 e_⟩))); (case aS => exact (below_size W2_)); (case aL => have := LMc52.out; omega); intro v224 w86 ho hb hg hat; rw [← Ny223.out] at ho; have n0_ := Aside0.mk (blk_grown (g := gb193) (o := .cells #[.int .i64 a0_0, .slice A0_1 l0_1.length c0_1] 44 (0, 0)) (B1_ BK193.out) hg (Kd.S_ne HO_199001.out BK193.out (by decide))); have n1_ := Aside0.mk (blk_grown (g := gb194) (o := .cells #[.slice (some ad205) l1_0.length c1_0] 24 (0, 0)) (B1_ BK194.out) hg (Kd.S_ne HO_199001.out BK194.out (by decide))); have n2_ := Aside0.mk (blk_grown (g := gb195) (o := .cells #[.int .i64 0, .slice none 0 0] 44 (0, 0)) (B1_ BK195.out) hg (Kd.S_ne HO_199001.out BK195.out (by decide))); have n3_ := Aside0.mk (blk_grown (g := gb198) (o := .cells #[.int .i64 (wrap64 (a0_0 + 1)), u199001] 44 (0, 0)) (B1_ BK198.out) hg (Kd.S_ne HO_199001.out BK198.out (by decide))); have n4_ := Aside0.mk (blk_grown (g := gb206) (o := .cells #[.string ((rd_T57 l1_0 x33_2).f0), .int .i64 ((rd_T57 l1_0 x33_2).f1), .int .i64 ((rd_T57 l1_0 x33_2).f2), .int .i64 ((rd_T57 l1_0 x33_2).f3), .bool ((rd_T57 l1_0 x33_2).f4), .bool ((rd_T57 l1_0 x33_2).f5), .slice Ao76 t220.length co76] 57 (0, 0)) (B1_ BK206.out) hg (Kd.S_ne HO_199001.out BK206.out (by decide))); have n5_ := Aside0.mk (Kd.R_over' (R1_ HO215.out) (Kd.S_typed (by (with_reducible repeat (first | apply Kd.S_alloc | apply Kd.S_drewN | apply Kd.S_drew)); exact HO_199001.out)) (by decide) hg); have n6_ := Aside0.mk (blk_grown (g := gb218) (o := .cells #[.string ((rd_T57 l1_0 x33_2).f0), .int .i64 ((rd_T57 l1_0 x33_2).f1), .int .i64 ((rd_T57 l1_0 x33_2).f2), .int .i64 ((rd_T57 l1_0 x33_2).f3), .bool ((rd_T57 l1_0 x33_2).f4), .bool ((rd_T57 l1_0 x33_2).f5), .slice Ao76 t220.length co76, .int .i64 t216] 59 (0, 0)) (B1_ BK218.out) hg (Kd.S_away HO_199001.out (fun _ hk => hk.2.2))); have n7_ := Aside0.mk (hb); have n8_ := Aside0.mk (ho); clear BK193; clear BK194; clear BK195; clear BK198; clear BK206; clear HO215; clear BK218; clear HB; clear HO_199001; clear HO222; have BK193 := n0_; have BK194 := n1_; have BK195 := n2_; have BK198 := n3_; have BK206 := n4_; have HO215 := n5_; have BK218 := n6_; have HB := n7_; have HO225 := n8_; clear n0_ n1_ n2_ n3_ n4_ n5_ n6_ n7_ n8_; clear ho hb hg hat; obtain ⟨Ao87, co87, eo87⟩ := Kd.S_slice HO225.out; subst eo87; obtain ⟨z88_0, z88_1, y88_0, y88_1⟩ := cz2_ BK198.out))
            go_roundg k2
            case measure => have := HJ2.out; have := HK2.out; omega
            case rel => exact ⟨(wrap64 (x33_2 + 1)), (y223), (.slice Ao87 y223.length co87), E3_, H', ⟨by have := HJ2.out; have := HK2.out; omega⟩, ⟨by (with_reducible repeat (first | apply Kd.S_alloc | apply Kd.S_drewN | apply Kd.S_drew)); exact Kd.S_mono (Kd.S_far (p := ⟨gb198, 1, none⟩) (Kd.S_types HO225.out BK198.out (by decide)) (fun _ hk => hk.2) (.slice Ao87 y223.length co87)) (fun _ hk => trivial)⟩, ⟨G1_ BK193.out⟩, ⟨G1_ BK194.out⟩, ⟨G1_ BK195.out⟩, ⟨G1_ BK198.out⟩, ⟨W2_⟩⟩
           ·
            rw [if_neg c52] at H
            exact absurd H (by simp)
          ·
           replace c50 := Bool.eq_false_iff.mpr c50
           subst c50
           rw [if_neg (show ¬ (false = true) by decide)] at H
           obtain ⟨t226, A89, H⟩ := bS_ H
           try dsimp only at H
           by_cases c90 : x199001_2.length < 1759218604441
           ·
            rw [if_pos c90] at H
            have LMc90 := Aside0.mk c90
            clear c90
            obtain ⟨y229, hy229⟩ : ∃ y_ : List (S59), y_ = (x199001_2 ++ [(⟨(⟨(rd_T57 l1_0 x33_2).f0, (rd_T57 l1_0 x33_2).f1, (rd_T57 l1_0 x33_2).f2, (rd_T57 l1_0 x33_2).f3, (rd_T57 l1_0 x33_2).f4, (rd_T57 l1_0 x33_2).f5, t226⟩ : S57), (wrap64 (a0_0 + 1))⟩ : S59)]) := ⟨_, rfl⟩
            replace H : (plan_Table_Next.l0 k2 l1_0 (l1_0.length : Int) (wrap64 (x33_2 + 1)) a0_0 l0_1 l1_0 (wrap64 (a0_0 + 1)) y229) = some (r1, r2, r3, r4) := by first | (rw [hy229]; with_reducible exact H) | (have H2_ := (Option.bind_some _ _).symm.trans H; rw [hy229]; with_reducible exact H2_) | (have H2_ := (Option.bind_some _ _).symm.trans H; with_reducible exact H2_) | with_reducible exact H | (rw [hy229]; exact H) | exact H
            have Ny229 := Aside0.mk hy229
            clear hy229
            have H' := Aside0.mk H
            clear H
            have p205 : 0 ≤ (x33_2 : Int) := oA_
            have q205 : x33_2 < (l1_0.length : Int) := oA_
            obtain ⟨ad205, A205_6, c205_6, e205, hx205_0, hx205_1, hx205_2, hx205_3, hx205_4, hx205_5, hx205_6, hl205_6, hi205_6⟩ := at_T57 HR1_0.out x33_2 p205 q205
            cases e205
            replace hx205_0 := (HB.out.cell (World.block_lt_of_cell? w _ hx205_0)).trans hx205_0
            replace hx205_1 := (HB.out.cell (World.block_lt_of_cell? w _ hx205_1)).trans hx205_1
            replace hx205_2 := (HB.out.cell (World.block_lt_of_cell? w _ hx205_2)).trans hx205_2
            replace hx205_3 := (HB.out.cell (World.block_lt_of_cell? w _ hx205_3)).trans hx205_3
            replace hx205_4 := (HB.out.cell (World.block_lt_of_cell? w _ hx205_4)).trans hx205_4
            replace hx205_5 := (HB.out.cell (World.block_lt_of_cell? w _ hx205_5)).trans hx205_5
            replace hx205_6 := (HB.out.cell (World.block_lt_of_cell? w _ hx205_6)).trans hx205_6
            have HR205_6 := Aside0.mk hi205_6
            have HC205_6 := Aside0.mk hl205_6
            clear hi205_6 hl205_6
            replace p205 := eq_true p205
            replace q205 := eq_true q205
            go_wp2_with (first | ((with_reducible refine gate_dst (N := 9) rfl ?_); refine box_event ?hg (N := 9) ?hd (cs := #[.string (⟨#[]⟩ : ByteArray), .int .i64 0, .int .i64 0, .int .i64 0, .bool false, .bool false, .slice none 0 0]) (t := 57) ?hr ?_; (case hd | hg => rfl); (case hr => exact S1_); intro gb206 hg w91 hbox hb; have BK206 := Aside0.mk (hbox); have GW206 := Aside0.mk ((Z2_ : w.heap.size ≤ gb206)); have GE206 := Aside0.mk ((Z2_ : w.heap.size ≤ gb206)); have NB193_206 := Aside0.mk ((by rw [hg]; exact Nat.ne_of_lt (blk_lt (B1_ BK193.out)) : gb193 ≠ gb206)); have NB206_193 := Aside0.mk ((by rw [hg]; exact Nat.ne_of_gt (blk_lt (B1_ BK193.out)) : gb206 ≠ gb193)); have NB194_206 := Aside0.mk ((by rw [hg]; exact Nat.ne_of_lt (blk_lt (B1_ BK194.out)) : gb194 ≠ gb206)); have NB206_194 := Aside0.mk ((by rw [hg]; exact Nat.ne_of_gt (blk_lt (B1_ BK194.out)) : gb206 ≠ gb194)); have NB195_206 := Aside0.mk ((by rw [hg]; exact Nat.ne_of_lt (blk_lt (B1_ BK195.out)) : gb195 ≠ gb206)); have NB206_195 := Aside0.mk ((by rw [hg]; exact Nat.ne_of_gt (blk_lt (B1_ BK195.out)) : gb206 ≠ gb195)); have NB198_206 := Aside0.mk ((by rw [hg]; exact Nat.ne_of_lt (blk_lt (B1_ BK198.out)) : gb198 ≠ gb206)); have NB206_198 := Aside0.mk ((by rw [hg]; exact Nat.ne_of_gt (blk_lt (B1_ BK198.out)) : gb206 ≠ gb198)); replace HO_199001 := Aside0.mk (Kd.S_below (by (with_reducible repeat (first | apply Kd.S_alloc | apply Kd.S_drewN | apply Kd.S_drew)); exact HO_199001.out) hb); replace BK193 := yB_ BK193 hb; replace BK194 := yB_ BK194 hb; replace BK195 := yB_ BK195 hb; replace BK198 := yB_ BK198 hb; replace HB := y2_ hb; clear hb hbox hg; have hnb92 := NB206_193.out; have hnc92 := NB193_206.out; have hnb93 := NB206_194.out; have hnc93 := NB194_206.out; have hnb94 := NB206_195.out; have hnc94 := NB195_206.out; have hnb95 := NB206_198.out; have hnc95 := NB198_206.out; obtain ⟨z96_0, z96_1, z96_2, z96_3, z96_4, z96_5, z96_6, y96_0, y96_1, y96_2, y96_3, y96_4, y96_5, y96_6⟩ := cz7_ BK206.out; have hnb97 := NB193_194.out; have hnc97 := NB194_193.out; have hnb98 := NB193_195.out; have hnc98 := NB195_193.out; have hnb99 := NB193_198.out; have hnc99 := NB198_193.out; obtain ⟨z100_0, z100_1, y100_0, y100_1⟩ := cz2_ BK193.out) | ((with_reducible refine gate_callee (f := 24) rfl ?_); refine goesL_ (some 41) rfl rfl Tryz.func24 (by kernel_rfl) rfl #[.agg #[.int .i64 a0_0, .slice A0_1 l0_1.length c0_1], .string ((rd_T57 l1_0 x33_2).f0)] rfl T1_ ?_; (with_reducible refine (plan_Table_Find.calls k2 a0_0 _ _ l0_1 ((rd_T57 l1_0 x33_2).f0) t207 t208 t209 t210 t211 t212 t213 t216 true _ ?side1 ?side2 A47.out).mono ?_); (case side1 => exact Kd.C_below HR0_1.out W2_); (case side2 => exact HC0_1.out); rintro e w101 ⟨v214, rfl, ho0, hb⟩; refine ⟨_, rfl, ?_⟩; replace HO_199001 := Aside0.mk (Kd.S_elder' (by (with_reducible repeat (first | apply Kd.S_alloc | apply Kd.S_drewN | apply Kd.S_drew)); exact (Kd.S_mono (Kd.S_far (p := ⟨gb206, 6, none⟩) (Kd.S_far (p := ⟨gb206, 5, none⟩) (Kd.S_far (p := ⟨gb206, 4, none⟩) (Kd.S_far (p := ⟨gb206, 3, none⟩) (Kd.S_far (p := ⟨gb206, 2, none⟩) (Kd.S_far (p := ⟨gb206, 1, none⟩) (Kd.S_far (p := ⟨gb206, 0, none⟩) (Kd.S_types HO_199001.out BK206.out (by decide)) (fun _ hk => hk.2) (.string ((rd_T57 l1_0 x33_2).f0))) (fun _ hk => hk.2) (.int .i64 ((rd_T57 l1_0 x33_2).f1))) (fun _ hk => hk.2) (.int .i64 ((rd_T57 l1_0 x33_2).f2))) (fun _ hk => hk.2) (.int .i64 ((rd_T57 l1_0 x33_2).f3))) (fun _ hk => hk.2) (.bool ((rd_T57 l1_0 x33_2).f4))) (fun _ hk => hk.2) (.bool ((rd_T57 l1_0 x33_2).f5))) (fun _ hk => hk.2) (.slice A205_6 ((rd_T57 l1_0 x33_2).f6).length c205_6)) (fun _ h_ => h_.1))) (Kd.R_base ho0) hb); have HO215 := Aside0.mk (Kd.R_lower ho0 (below_size W2_)); replace BK193 := Aside0.mk (blk_below (g := gb193) (o := .cells #[.int .i64 a0_0, .slice A0_1 l0_1.length c0_1] 44 (0, 0)) (G1_ BK193.out) hb); replace BK194 := Aside0.mk (blk_below (g := gb194) (o := .cells #[.slice (some ad205) l1_0.length c1_0] 24 (0, 0)) (G1_ BK194.out) hb); replace BK195 := Aside0.mk (blk_below (g := gb195) (o := .cells #[.int .i64 0, .slice none 0 0] 44 (0, 0)) (G1_ BK195.out) hb); replace BK198 := Aside0.mk (blk_below (g := gb198) (o := .cells #[.int .i64 (wrap64 (a0_0 + 1)), u199001] 44 (0, 0)) (G1_ BK198.out) hb); replace BK206 := Aside0.mk (blk_below (g := gb206) (o := .cells #[.string ((rd_T57 l1_0 x33_2).f0), .int .i64 ((rd_T57 l1_0 x33_2).f1), .int .i64 ((rd_T57 l1_0 x33_2).f2), .int .i64 ((rd_T57 l1_0 x33_2).f3), .bool ((rd_T57 l1_0 x33_2).f4), .bool ((rd_T57 l1_0 x33_2).f5), .slice A205_6 ((rd_T57 l1_0 x33_2).f6).length c205_6] 57 (0, 0)) (G1_ BK206.out) hb); replace HB := y2_ hb; (try clear hb); (try clear hk); (try clear ho0)) | ((with_reducible refine gate_dst (N := 10) rfl ?_); refine box_event ?hg (N := 10) ?hd (cs := #[.string (⟨#[]⟩ : ByteArray), .int .i64 0, .int .i64 0, .int .i64 0, .bool false, .bool false, .slice none 0 0, .int .i64 0]) (t := 59) ?hr ?_; (case hd | hg => rfl); (case hr => exact S1_); intro gb218 hg w102 hbox hb; have BK218 := Aside0.mk (hbox); have GW218 := Aside0.mk ((Z2_ : w.heap.size ≤ gb218)); have GE218 := Aside0.mk ((Z2_ : w.heap.size ≤ gb218)); have NB193_218 := Aside0.mk ((by rw [hg]; exact Nat.ne_of_lt (blk_lt (B1_ BK193.out)) : gb193 ≠ gb218)); have NB218_193 := Aside0.mk ((by rw [hg]; exact Nat.ne_of_gt (blk_lt (B1_ BK193.out)) : gb218 ≠ gb193)); have NB194_218 := Aside0.mk ((by rw [hg]; exact Nat.ne_of_lt (blk_lt (B1_ BK194.out)) : gb194 ≠ gb218)); have NB218_194 := Aside0.mk ((by rw [hg]; exact Nat.ne_of_gt (blk_lt (B1_ BK194.out)) : gb218 ≠ gb194)); have NB195_218 := Aside0.mk ((by rw [hg]; exact Nat.ne_of_lt (blk_lt (B1_ BK195.out)) : gb195 ≠ gb218)); have NB218_195 := Aside0.mk ((by rw [hg]; exact Nat.ne_of_gt (blk_lt (B1_ BK195.out)) : gb218 ≠ gb195)); have NB198_218 := Aside0.mk ((by rw [hg]; exact Nat.ne_of_lt (blk_lt (B1_ BK198.out)) : gb198 ≠ gb218)); have NB218_198 := Aside0.mk ((by rw [hg]; exact Nat.ne_of_gt (blk_lt (B1_ BK198.out)) : gb218 ≠ gb198)); have NB206_218 := Aside0.mk ((by rw [hg]; exact Nat.ne_of_lt (blk_lt (B1_ BK206.out)) : gb206 ≠ gb218)); have NB218_206 := Aside0.mk ((by rw [hg]; exact Nat.ne_of_gt (blk_lt (B1_ BK206.out)) : gb218 ≠ gb206)); replace HO_199001 := Aside0.mk (Kd.S_below (Kd.S_elderB (by (with_reducible repeat (first | apply Kd.S_alloc | apply Kd.S_drewN | apply Kd.S_drew)); exact HO_199001.out) gb218 (Nat.le_of_eq hg.symm)) hb); replace HO215 := Aside0.mk (Kd.R_below (R1_ HO215.out) hb); replace BK193 := yB_ BK193 hb; replace BK194 := yB_ BK194 hb; replace BK195 := yB_ BK195 hb; replace BK198 := yB_ BK198 hb; replace BK206 := yB_ BK206 hb; replace HB := y2_ hb; clear hb hbox hg; have hnb103 := NB218_193.out; have hnc103 := NB193_218.out; have hnb104 := NB218_194.out; have hnc104 := NB194_218.out; have hnb105 := NB218_195.out; have hnc105 := NB195_218.out; have hnb106 := NB218_198.out; have hnc106 := NB198_218.out; have hnb107 := NB218_206.out; have hnc107 := NB206_218.out; obtain ⟨z108_0, z108_1, z108_2, z108_3, z108_4, z108_5, z108_6, z108_7, y108_0, y108_1, y108_2, y108_3, y108_4, y108_5, y108_6, y108_7⟩ := cz8_ BK218.out; obtain ⟨Ao109, co109, eo109⟩ := Kd.R_slice HO215.out; subst eo109; obtain ⟨z110_0, z110_1, z110_2, z110_3, z110_4, z110_5, z110_6, y110_0, y110_1, y110_2, y110_3, y110_4, y110_5, y110_6⟩ := cz7_ BK206.out) | (go_at_call 39; (with_reducible refine (plan_same.calls k2 t207 t208 t209 t210 t211 t212 _ _ t213 ((rd_T57 l1_0 x33_2).f0) ((rd_T57 l1_0 x33_2).f1) ((rd_T57 l1_0 x33_2).f2) ((rd_T57 l1_0 x33_2).f3) ((rd_T57 l1_0 x33_2).f4) ((rd_T57 l1_0 x33_2).f5) _ _ ((rd_T57 l1_0 x33_2).f6) false _ ?side1 ?side2 ?side3 ?side4 A49.out).mono ?_); (case side1 => refine (Kd.R_reads' (e := 9) (base := w.heap.size) (ok := fun k_ => True) (n := t213.length) (c := co109) ?_).2.2; exact (by refine R1_ ?_; exact (Kd.R_mono (Kd.R_far (p := ⟨gb218, 7, none⟩) (Kd.R_far (p := ⟨gb218, 6, none⟩) (Kd.R_far (p := ⟨gb218, 5, none⟩) (Kd.R_far (p := ⟨gb218, 4, none⟩) (Kd.R_far (p := ⟨gb218, 3, none⟩) (Kd.R_far (p := ⟨gb218, 2, none⟩) (Kd.R_far (p := ⟨gb218, 1, none⟩) (Kd.R_far (p := ⟨gb218, 0, none⟩) (Kd.R_types HO215.out BK218.out (by decide)) (fun _ hk => hk.2) (.string t207)) (fun _ hk => hk.2) (.int .i64 t208)) (fun _ hk => hk.2) (.int .i64 t209)) (fun _ hk => hk.2) (.int .i64 t210)) (fun _ hk => hk.2) (.bool t211)) (fun _ hk => hk.2) (.bool t212)) (fun _ hk => hk.2) (.slice Ao109 t213.length co109)) (fun _ hk => hk.2) (.int .i64 t216)) (fun _ h_ => h_.1)))); (case side2 => exact (Kd.R_reads' HO215.out).2.1); (case side3 => exact Kd.C_below HR205_6.out W2_); (case side4 => exact HC205_6.out); rintro e w111 ⟨rfl, hb⟩; replace HO_199001 := Aside0.mk (Kd.S_below (by (with_reducible repeat (first | apply Kd.S_alloc | apply Kd.S_drewN | apply Kd.S_drew)); exact (Kd.S_mono (Kd.S_far (p := ⟨gb218, 7, none⟩) (Kd.S_far (p := ⟨gb218, 6, none⟩) (Kd.S_far (p := ⟨gb218, 5, none⟩) (Kd.S_far (p := ⟨gb218, 4, none⟩) (Kd.S_far (p := ⟨gb218, 3, none⟩) (Kd.S_far (p := ⟨gb218, 2, none⟩) (Kd.S_far (p := ⟨gb218, 1, none⟩) (Kd.S_far (p := ⟨gb218, 0, none⟩) (Kd.S_mono HO_199001.out (fun k_ hk => (⟨hk, hk.2⟩ : _ ∧ k_ ≠ gb218))) (fun _ hk => hk.2) (.string t207)) (fun _ hk => hk.2) (.int .i64 t208)) (fun _ hk => hk.2) (.int .i64 t209)) (fun _ hk => hk.2) (.int .i64 t210)) (fun _ hk => hk.2) (.bool t211)) (fun _ hk => hk.2) (.bool t212)) (fun _ hk => hk.2) (.slice Ao109 t213.length co109)) (fun _ hk => hk.2) (.int .i64 t216)) (fun _ h_ => h_.1))) hb); replace HO215 := Aside0.mk (Kd.R_below (by refine R1_ ?_; exact (Kd.R_mono (Kd.R_far (p := ⟨gb218, 7, none⟩) (Kd.R_far (p := ⟨gb218, 6, none⟩) (Kd.R_far (p := ⟨gb218, 5, none⟩) (Kd.R_far (p := ⟨gb218, 4, none⟩) (Kd.R_far (p := ⟨gb218, 3, none⟩) (Kd.R_far (p := ⟨gb218, 2, none⟩) (Kd.R_far (p := ⟨gb218, 1, none⟩) (Kd.R_far (p := ⟨gb218, 0, none⟩) (Kd.R_types HO215.out BK218.out (by decide)) (fun _ hk => hk.2) (.string t207)) (fun _ hk => hk.2) (.int .i64 t208)) (fun _ hk => hk.2) (.int .i64 t209)) (fun _ hk => hk.2) (.int .i64 t210)) (fun _ hk => hk.2) (.bool t211)) (fun _ hk => hk.2) (.bool t212)) (fun _ hk => hk.2) (.slice Ao109 t213.length co109)) (fun _ hk => hk.2) (.int .i64 t216)) (fun _ h_ => h_.1))) hb); replace BK193 := Aside0.mk (blk_below (g := gb193) (o := .cells #[.int .i64 a0_0, .slice A0_1 l0_1.length c0_1] 44 (0, 0)) (G1_ BK193.out) hb); replace BK194 := Aside0.mk (blk_below (g := gb194) (o := .cells #[.slice (some ad205) l1_0.length c1_0] 24 (0, 0)) (G1_ BK194.out) hb); replace BK195 := Aside0.mk (blk_below (g := gb195) (o := .cells #[.int .i64 0, .slice none 0 0] 44 (0, 0)) (G1_ BK195.out) hb); replace BK198 := Aside0.mk (blk_below (g := gb198) (o := .cells #[.int .i64 (wrap64 (a0_0 + 1)), u199001] 44 (0, 0)) (G1_ BK198.out) hb); replace BK206 := Aside0.mk (blk_below (g := gb206) (o := .cells #[.string ((rd_T57 l1_0 x33_2).f0), .int .i64 ((rd_T57 l1_0 x33_2).f1), .int .i64 ((rd_T57 l1_0 x33_2).f2), .int .i64 ((rd_T57 l1_0 x33_2).f3), .bool ((rd_T57 l1_0 x33_2).f4), .bool ((rd_T57 l1_0 x33_2).f5), .slice A205_6 ((rd_T57 l1_0 x33_2).f6).length c205_6] 57 (0, 0)) (G1_ BK206.out) hb); replace BK218 := Aside0.mk (blk_below (g := gb218) (o := .cells #[.string t207, .int .i64 t208, .int .i64 t209, .int .i64 t210, .bool t211, .bool t212, .slice Ao109 t213.length co109, .int .i64 t216] 59 (0, 0)) (G1_ BK218.out) hb); replace HB := y2_ hb; (try clear hb); (try clear hk); have hnb112 := NB198_194.out; have hnc112 := NB194_198.out; have hnb113 := NB198_195.out; have hnc113 := NB195_198.out; obtain ⟨z114_0, z114_1, y114_0, y114_1⟩ := cz2_ BK198.out; obtain ⟨z115_0, z115_1, z115_2, z115_3, z115_4, z115_5, z115_6, z115_7, y115_0, y115_1, y115_2, y115_3, y115_4, y115_5, y115_6, y115_7⟩ := cz8_ BK218.out; obtain ⟨z116_0, z116_1, z116_2, z116_3, z116_4, z116_5, z116_6, y116_0, y116_1, y116_2, y116_3, y116_4, y116_5, y116_6⟩ := cz7_ BK206.out) | ((with_reducible refine gate_callee (f := 40) rfl ?_); refine goesL_ (some 58) rfl rfl Tryz.func40 (by kernel_rfl) rfl #[.slice A205_6 ((rd_T57 l1_0 x33_2).f6).length c205_6] rfl T1_ ?_; (with_reducible refine (slices_Clone_string_string.calls _ _ ((rd_T57 l1_0 x33_2).f6) t226 _ ?side1 ?side2 A89.out).mono ?_); (case side1 => exact Kd.C_below HR205_6.out W2_); (case side2 => exact HC205_6.out); rintro e w117 ⟨v227, rfl, ho0, hb⟩; refine ⟨_, rfl, ?_⟩; have HO228 := Aside0.mk (Kd.R_lower (Kd.R_new' ho0 (Kd.R_lt (by refine R1_ ?_; exact (Kd.R_mono (Kd.R_far (p := ⟨gb218, 7, none⟩) (Kd.R_far (p := ⟨gb218, 6, none⟩) (Kd.R_far (p := ⟨gb218, 5, none⟩) (Kd.R_far (p := ⟨gb218, 4, none⟩) (Kd.R_far (p := ⟨gb218, 3, none⟩) (Kd.R_far (p := ⟨gb218, 2, none⟩) (Kd.R_far (p := ⟨gb218, 1, none⟩) (Kd.R_far (p := ⟨gb218, 0, none⟩) (Kd.R_types HO215.out BK218.out (by decide)) (fun _ hk => hk.2) (.string (⟨#[]⟩ : ByteArray))) (fun _ hk => hk.2) (.int .i64 0)) (fun _ hk => hk.2) (.int .i64 0)) (fun _ hk => hk.2) (.int .i64 0)) (fun _ hk => hk.2) (.bool false)) (fun _ hk => hk.2) (.bool false)) (fun _ hk => hk.2) (.slice none 0 0)) (fun _ hk => hk.2) (.int .i64 (wrap64 (a0_0 + 1)))) (fun _ h_ => h_.1))))) (below_size W2_)); replace HO_199001 := Aside0.mk (Kd.S_elder' (by (with_reducible repeat (first | apply Kd.S_alloc | apply Kd.S_drewN | apply Kd.S_drew)); exact (Kd.S_mono (Kd.S_far (p := ⟨gb218, 7, none⟩) (Kd.S_far (p := ⟨gb218, 6, none⟩) (Kd.S_far (p := ⟨gb218, 5, none⟩) (Kd.S_far (p := ⟨gb218, 4, none⟩) (Kd.S_far (p := ⟨gb218, 3, none⟩) (Kd.S_far (p := ⟨gb218, 2, none⟩) (Kd.S_far (p := ⟨gb218, 1, none⟩) (Kd.S_far (p := ⟨gb218, 0, none⟩) (Kd.S_mono HO_199001.out (fun k_ hk => (⟨hk, hk.2⟩ : _ ∧ k_ ≠ gb218))) (fun _ hk => hk.2) (.string (⟨#[]⟩ : ByteArray))) (fun _ hk => hk.2) (.int .i64 0)) (fun _ hk => hk.2) (.int .i64 0)) (fun _ hk => hk.2) (.int .i64 0)) (fun _ hk => hk.2) (.bool false)) (fun _ hk => hk.2) (.bool false)) (fun _ hk => hk.2) (.slice none 0 0)) (fun _ hk => hk.2) (.int .i64 (wrap64 (a0_0 + 1)))) (fun _ h_ => h_.1))) (Kd.R_base ho0) hb); replace HO215 := Aside0.mk (Kd.R_elder' (by refine R1_ ?_; exact (Kd.R_mono (Kd.R_far (p := ⟨gb218, 7, none⟩) (Kd.R_far (p := ⟨gb218, 6, none⟩) (Kd.R_far (p := ⟨gb218, 5, none⟩) (Kd.R_far (p := ⟨gb218, 4, none⟩) (Kd.R_far (p := ⟨gb218, 3, none⟩) (Kd.R_far (p := ⟨gb218, 2, none⟩) (Kd.R_far (p := ⟨gb218, 1, none⟩) (Kd.R_far (p := ⟨gb218, 0, none⟩) (Kd.R_types HO215.out BK218.out (by decide)) (fun _ hk => hk.2) (.string (⟨#[]⟩ : ByteArray))) (fun _ hk => hk.2) (.int .i64 0)) (fun _ hk => hk.2) (.int .i64 0)) (fun _ hk => hk.2) (.int .i64 0)) (fun _ hk => hk.2) (.bool false)) (fun _ hk => hk.2) (.bool false)) (fun _ hk => hk.2) (.slice none 0 0)) (fun _ hk => hk.2) (.int .i64 (wrap64 (a0_0 + 1)))) (fun _ h_ => h_.1))) (Kd.R_base ho0) hb); replace BK193 := Aside0.mk (blk_below (g := gb193) (o := .cells #[.int .i64 a0_0, .slice A0_1 l0_1.length c0_1] 44 (0, 0)) (G1_ BK193.out) hb); replace BK194 := Aside0.mk (blk_below (g := gb194) (o := .cells #[.slice (some ad205) l1_0.length c1_0] 24 (0, 0)) (G1_ BK194.out) hb); replace BK195 := Aside0.mk (blk_below (g := gb195) (o := .cells #[.int .i64 0, .slice none 0 0] 44 (0, 0)) (G1_ BK195.out) hb); replace BK198 := Aside0.mk (blk_below (g := gb198) (o := .cells #[.int .i64 (wrap64 (a0_0 + 1)), u199001] 44 (0, 0)) (G1_ BK198.out) hb); replace BK206 := Aside0.mk (blk_below (g := gb206) (o := .cells #[.string ((rd_T57 l1_0 x33_2).f0), .int .i64 ((rd_T57 l1_0 x33_2).f1), .int .i64 ((rd_T57 l1_0 x33_2).f2), .int .i64 ((rd_T57 l1_0 x33_2).f3), .bool ((rd_T57 l1_0 x33_2).f4), .bool ((rd_T57 l1_0 x33_2).f5), .slice A205_6 ((rd_T57 l1_0 x33_2).f6).length c205_6] 57 (0, 0)) (G1_ BK206.out) hb); replace BK218 := Aside0.mk (blk_below (g := gb218) (o := .cells #[.string (⟨#[]⟩ : ByteArray), .int .i64 0, .int .i64 0, .int .i64 0, .bool false, .bool false, .slice none 0 0, .int .i64 (wrap64 (a0_0 + 1))] 59 (0, 0)) (G1_ BK218.out) hb); replace HB := y2_ hb; (try clear hb); (try clear hk); (try clear ho0); obtain ⟨Ao118, co118, eo118⟩ := Kd.R_slice HO228.out; subst eo118; obtain ⟨z119_0, z119_1, z119_2, z119_3, z119_4, z119_5, z119_6, y119_0, y119_1, y119_2, y119_3, y119_4, y119_5, y119_6⟩ := cz7_ BK206.out) | ((with_reducible refine gate_store (t := 55) (p := 59) rfl ?_); refine store_event (t := 55) (p := 59) (v := ?vo_w120) (w1 := (w117.setCell ⟨gb206, 6, none⟩ (.slice Ao118 t226.length co118))) ?hg ?ho ?hn ?hr ?_; (case ho => rfl); (case hg => rfl); (case hn => rfl); (case hr => first | (go_simp; done) | (go_simp; rfl)); intro w120 hw; have n0_ : Aside0 (Kd.S k59 59 w120 w.heap.size (fun k_ => some k_ ≠ (.slice Ao109 t213.length co109 : Value).ownBlock ∧ some k_ ≠ (.slice Ao118 t226.length co118 : Value).ownBlock ∧ k_ ≠ gb218) u199001 x199001_2) := ⟨(by rw [hw]; exact (by (with_reducible repeat (first | apply Kd.S_alloc | apply Kd.S_drewN | apply Kd.S_drew)); exact Kd.S_mono (Kd.S_far (p := ⟨gb206, 6, none⟩) (Kd.S_types HO_199001.out BK206.out (by decide)) (fun _ hk => hk.2) (.slice Ao118 t226.length co118)) (fun _ hk => by first | exact ⟨hk.1.1.1.2, ⟨hk.1.2, hk.1.1.2⟩⟩ | simp_all)))⟩; have n1_ : Aside0 (Kd.R Kd.string 9 w120 w.heap.size (fun k_ => some k_ ≠ (.slice Ao118 t226.length co118 : Value).ownBlock) (.slice Ao109 t213.length co109) t213) := ⟨(by rw [hw]; exact (by refine R1_ ?_; exact Kd.R_mono (Kd.R_far (p := ⟨gb206, 6, none⟩) (Kd.R_types HO215.out BK206.out (by decide)) (fun _ hk => hk.2) (.slice Ao118 t226.length co118)) (fun _ hk => hk.1.2)))⟩; have n2_ : Aside0 (Kd.R Kd.string 9 w120 w.heap.size (fun k_ => some k_ ≠ (.slice Ao109 t213.length co109 : Value).ownBlock) (.slice Ao118 t226.length co118) t226) := ⟨(by rw [hw]; exact (by refine R1_ ?_; exact Kd.R_mono (Kd.R_far (p := ⟨gb206, 6, none⟩) (Kd.R_types HO228.out BK206.out (by decide)) (fun _ hk => hk.2) (.slice Ao118 t226.length co118)) (fun _ hk => hk.1.2)))⟩; have n3_ : Aside0 (w120.heap[gb193]? = some (.cells #[.int .i64 a0_0, .slice A0_1 l0_1.length c0_1] 44 (0, 0))) := ⟨(by rw [hw]; exact (G1_ BK193.out))⟩; have n4_ : Aside0 (w120.heap[gb194]? = some (.cells #[.slice (some ad205) l1_0.length c1_0] 24 (0, 0))) := ⟨(by rw [hw]; exact (G1_ BK194.out))⟩; have n5_ : Aside0 (w120.heap[gb195]? = some (.cells #[.int .i64 0, .slice none 0 0] 44 (0, 0))) := ⟨(by rw [hw]; exact (G1_ BK195.out))⟩; have n6_ : Aside0 (w120.heap[gb198]? = some (.cells #[.int .i64 (wrap64 (a0_0 + 1)), u199001] 44 (0, 0))) := ⟨(by rw [hw]; exact (G1_ BK198.out))⟩; have n7_ : Aside0 (w120.heap[gb206]? = some (.cells #[.string ((rd_T57 l1_0 x33_2).f0), .int .i64 ((rd_T57 l1_0 x33_2).f1), .int .i64 ((rd_T57 l1_0 x33_2).f2), .int .i64 ((rd_T57 l1_0 x33_2).f3), .bool ((rd_T57 l1_0 x33_2).f4), .bool ((rd_T57 l1_0 x33_2).f5), .slice Ao118 t226.length co118] 57 (0, 0))) := ⟨(by rw [hw]; exact (G1_ BK206.out))⟩; have n8_ : Aside0 (w120.heap[gb218]? = some (.cells #[.string (⟨#[]⟩ : ByteArray), .int .i64 0, .int .i64 0, .int .i64 0, .bool false, .bool false, .slice none 0 0, .int .i64 (wrap64 (a0_0 + 1))] 59 (0, 0))) := ⟨(by rw [hw]; exact (G1_ BK218.out))⟩; have n9_ : Aside0 (Below w.heap.size w w120) := ⟨(by rw [hw]; exact W2_)⟩; clear hw; clear HO_199001; clear HO215; clear HO228; clear BK193; clear BK194; clear BK195; clear BK198; clear BK206; clear BK218; clear HB; have HO_199001 := n0_; have HO215 := n1_; have HO228 := n2_; have BK193 := n3_; have BK194 := n4_; have BK195 := n5_; have BK198 := n6_; have BK206 := n7_; have BK218 := n8_; have HB := n9_; clear n0_ n1_ n2_ n3_ n4_ n5_ n6_ n7_ n8_ n9_; obtain ⟨z121_0, z121_1, z121_2, z121_3, z121_4, z121_5, z121_6, y121_0, y121_1, y121_2, y121_3, y121_4, y121_5, y121_6⟩ := cz7_ BK206.out; obtain ⟨z122_0, z122_1, z122_2, z122_3, z122_4, z122_5, z122_6, z122_7, y122_0, y122_1, y122_2, y122_3, y122_4, y122_5, y122_6, y122_7⟩ := cz8_ BK218.out) | ((with_reducible refine gate_store (t := 57) (p := 61) rfl ?_); refine store_event (t := 57) (p := 61) (v := ?vo_w123) (w1 := (((((((w120.setCell ⟨gb218, 0, none⟩ (.string ((rd_T57 l1_0 x33_2).f0))).setCell ⟨gb218, 1, none⟩ (.int .i64 ((rd_T57 l1_0 x33_2).f1))).setCell ⟨gb218, 2, none⟩ (.int .i64 ((rd_T57 l1_0 x33_2).f2))).setCell ⟨gb218, 3, none⟩ (.int .i64 ((rd_T57 l1_0 x33_2).f3))).setCell ⟨gb218, 4, none⟩ (.bool ((rd_T57 l1_0 x33_2).f4))).setCell ⟨gb218, 5, none⟩ (.bool ((rd_T57 l1_0 x33_2).f5))).setCell ⟨gb218, 6, none⟩ (.slice Ao118 t226.length co118))) ?hg ?ho ?hn ?hr ?_; (case ho => rfl); (case hg => rfl); (case hn => rfl); (case hr => first | (go_simp; done) | (go_simp; rfl)); intro w123 hw; have n0_ : Aside0 (Kd.S k59 59 w123 w.heap.size (fun k_ => some k_ ≠ (.slice Ao109 t213.length co109 : Value).ownBlock ∧ some k_ ≠ (.slice Ao118 t226.length co118 : Value).ownBlock ∧ k_ ≠ gb218) u199001 x199001_2) := ⟨(by rw [hw]; exact (by (with_reducible repeat (first | apply Kd.S_alloc | apply Kd.S_drewN | apply Kd.S_drew)); exact Kd.S_mono (Kd.S_far (p := ⟨gb218, 6, none⟩) (Kd.S_far (p := ⟨gb218, 5, none⟩) (Kd.S_far (p := ⟨gb218, 4, none⟩) (Kd.S_far (p := ⟨gb218, 3, none⟩) (Kd.S_far (p := ⟨gb218, 2, none⟩) (Kd.S_far (p := ⟨gb218, 1, none⟩) (Kd.S_far (p := ⟨gb218, 0, none⟩) (Kd.S_mono HO_199001.out (fun k_ hk => (⟨hk, hk.2.2⟩ : _ ∧ k_ ≠ gb218))) (fun _ hk => hk.2) (.string ((rd_T57 l1_0 x33_2).f0))) (fun _ hk => hk.2) (.int .i64 ((rd_T57 l1_0 x33_2).f1))) (fun _ hk => hk.2) (.int .i64 ((rd_T57 l1_0 x33_2).f2))) (fun _ hk => hk.2) (.int .i64 ((rd_T57 l1_0 x33_2).f3))) (fun _ hk => hk.2) (.bool ((rd_T57 l1_0 x33_2).f4))) (fun _ hk => hk.2) (.bool ((rd_T57 l1_0 x33_2).f5))) (fun _ hk => hk.2) (.slice Ao118 t226.length co118)) (fun _ hk => by first | exact ⟨hk.1.1, ⟨hk.1.2.1, hk.1.2.2⟩⟩ | simp_all)))⟩; have n1_ : Aside0 (Kd.R Kd.string 9 w123 w.heap.size (fun k_ => some k_ ≠ (.slice Ao118 t226.length co118 : Value).ownBlock) (.slice Ao109 t213.length co109) t213) := ⟨(by rw [hw]; exact (by refine R1_ ?_; exact Kd.R_mono (Kd.R_far (p := ⟨gb218, 6, none⟩) (Kd.R_far (p := ⟨gb218, 5, none⟩) (Kd.R_far (p := ⟨gb218, 4, none⟩) (Kd.R_far (p := ⟨gb218, 3, none⟩) (Kd.R_far (p := ⟨gb218, 2, none⟩) (Kd.R_far (p := ⟨gb218, 1, none⟩) (Kd.R_far (p := ⟨gb218, 0, none⟩) (Kd.R_types HO215.out BK218.out (by decide)) (fun _ hk => hk.2) (.string ((rd_T57 l1_0 x33_2).f0))) (fun _ hk => hk.2) (.int .i64 ((rd_T57 l1_0 x33_2).f1))) (fun _ hk => hk.2) (.int .i64 ((rd_T57 l1_0 x33_2).f2))) (fun _ hk => hk.2) (.int .i64 ((rd_T57 l1_0 x33_2).f3))) (fun _ hk => hk.2) (.bool ((rd_T57 l1_0 x33_2).f4))) (fun _ hk => hk.2) (.bool ((rd_T57 l1_0 x33_2).f5))) (fun _ hk => hk.2) (.slice Ao118 t226.length co118)) (fun _ hk => hk.1)))⟩; have n2_ : Aside0 (Kd.R Kd.string 9 w123 w.heap.size (fun k_ => some k_ ≠ (.slice Ao109 t213.length co109 : Value).ownBlock) (.slice Ao118 t226.length co118) t226) := ⟨(by rw [hw]; exact (by refine R1_ ?_; exact Kd.R_mono (Kd.R_far (p := ⟨gb218, 6, none⟩) (Kd.R_far (p := ⟨gb218, 5, none⟩) (Kd.R_far (p := ⟨gb218, 4, none⟩) (Kd.R_far (p := ⟨gb218, 3, none⟩) (Kd.R_far (p := ⟨gb218, 2, none⟩) (Kd.R_far (p := ⟨gb218, 1, none⟩) (Kd.R_far (p := ⟨gb218, 0, none⟩) (Kd.R_types HO228.out BK218.out (by decide)) (fun _ hk => hk.2) (.string ((rd_T57 l1_0 x33_2).f0))) (fun _ hk => hk.2) (.int .i64 ((rd_T57 l1_0 x33_2).f1))) (fun _ hk => hk.2) (.int .i64 ((rd_T57 l1_0 x33_2).f2))) (fun _ hk => hk.2) (.int .i64 ((rd_T57 l1_0 x33_2).f3))) (fun _ hk => hk.2) (.bool ((rd_T57 l1_0 x33_2).f4))) (fun _ hk => hk.2) (.bool ((rd_T57 l1_0 x33_2).f5))) (fun _ hk => hk.2) (.slice Ao118 t226.length co118)) (fun _ hk => hk.1)))⟩; have n3_ : Aside0 (w123.heap[gb193]? = some (.cells #[.int .i64 a0_0, .slice A0_1 l0_1.length c0_1] 44 (0, 0))) := ⟨(by rw [hw]; exact (G1_ BK193.out))⟩; have n4_ : Aside0 (w123.heap[gb194]? = some (.cells #[.slice (some ad205) l1_0.length c1_0] 24 (0, 0))) := ⟨(by rw [hw]; exact (G1_ BK194.out))⟩; have n5_ : Aside0 (w123.heap[gb195]? = some (.cells #[.int .i64 0, .slice none 0 0] 44 (0, 0))) := ⟨(by rw [hw]; exact (G1_ BK195.out))⟩; have n6_ : Aside0 (w123.heap[gb198]? = some (.cells #[.int .i64 (wrap64 (a0_0 + 1)), u199001] 44 (0, 0))) := ⟨(by rw [hw]; exact (G1_ BK198.out))⟩; have n7_ : Aside0 (w123.heap[gb206]? = some (.cells #[.string ((rd_T57 l1_0 x33_2).f0), .int .i64 ((rd_T57 l1_0 x33_2).f1), .int .i64 ((rd_T57 l1_0 x33_2).f2), .int .i64 ((rd_T57 l1_0 x33_2).f3), .bool ((rd_T57 l1_0 x33_2).f4), .bool ((rd_T57 l1_0 x33_2).f5), .slice Ao118 t226.length co118] 57 (0, 0))) := ⟨(by rw [hw]; exact (G1_ BK206.out))⟩; have n8_ : Aside0 (w123.heap[gb218]? = some (.cells #[.string ((rd_T57 l1_0 x33_2).f0), .int .i64 ((rd_T57 l1_0 x33_2).f1), .int .i64 ((rd_T57 l1_0 x33_2).f2), .int .i64 ((rd_T57 l1_0 x33_2).f3), .bool ((rd_T57 l1_0 x33_2).f4), .bool ((rd_T57 l1_0 x33_2).f5), .slice Ao118 t226.length co118, .int .i64 (wrap64 (a0_0 + 1))] 59 (0, 0))) := ⟨(by rw [hw]; exact (G1_ BK218.out))⟩; have n9_ : Aside0 (Below w.heap.size w w123) := ⟨(by rw [hw]; exact W2_)⟩; clear hw; clear HO_199001; clear HO215; clear HO228; clear BK193; clear BK194; clear BK195; clear BK198; clear BK206; clear BK218; clear HB; have HO_199001 := n0_; have HO215 := n1_; have HO228 := n2_; have BK193 := n3_; have BK194 := n4_; have BK195 := n5_; have BK198 := n6_; have BK206 := n7_; have BK218 := n8_; have HB := n9_; clear n0_ n1_ n2_ n3_ n4_ n5_ n6_ n7_ n8_ n9_; obtain ⟨z124_0, z124_1, y124_0, y124_1⟩ := cz2_ BK198.out; obtain ⟨z125_0, z125_1, z125_2, z125_3, z125_4, z125_5, z125_6, z125_7, y125_0, y125_1, y125_2, y125_3, y125_4, y125_5, y125_6, y125_7⟩ := cz8_ BK218.out) | ((with_reducible refine gate_builtin (b := .append) (xs := #[.tmp 63, .tmp 65]) rfl ?_); at_builtin; refine Kd.S_append k59 (w0 := w) w.heap.size rfl (.tmp 63) (.tmp 65) 42 59 (.agg #[(.string ⟨#[]⟩), (.int .i64 0), (.int .i64 0), (.int .i64 0), (.bool false), (.bool false), (.slice none 0 0), (.int .i64 0)]) 80 rfl Tryz.underlying42 info59 rfl (by decide) (by omega) u199001 x199001_2 (⟨(⟨(rd_T57 l1_0 x33_2).f0, (rd_T57 l1_0 x33_2).f1, (rd_T57 l1_0 x33_2).f2, (rd_T57 l1_0 x33_2).f3, (rd_T57 l1_0 x33_2).f4, (rd_T57 l1_0 x33_2).f5, t226⟩ : S57), (wrap64 (a0_0 + 1))⟩ : S59) [.string ((rd_T57 l1_0 x33_2).f0), .int .i64 ((rd_T57 l1_0 x33_2).f1), .int .i64 ((rd_T57 l1_0 x33_2).f2), .int .i64 ((rd_T57 l1_0 x33_2).f3), .bool ((rd_T57 l1_0 x33_2).f4), .bool ((rd_T57 l1_0 x33_2).f5), .slice Ao118 t226.length co118, .int .i64 (wrap64 (a0_0 + 1))] (fun k_ => some k_ ≠ (.slice Ao109 t213.length co109 : Value).ownBlock ∧ k_ ≠ gb218) (fun k_ => some k_ = (.slice Ao118 t226.length co118 : Value).ownBlock) rfl rfl ?aP (fun k_ hk_ => ((Kd.R_mono (ok' := fun k_ => ((fun k_ => some k_ ≠ (.slice Ao109 t213.length co109 : Value).ownBlock ∧ k_ ≠ gb218)) k_ ∧ some k_ ≠ (u199001 : Value).ownBlock) (Kd.R_types (Kd.R_apart' (HO228.out) (Kd.S_typed HO_199001.out) (by decide)) BK218.out (by decide)) (fun k_ hk => ⟨⟨hk.1.1, hk.2⟩, hk.1.2⟩))).1 k_ hk_.symm) ?aF ?aO ?aB ?aS ?aL ?_; (case aP => exact k59_mkM _ _ _ (⟨(⟨(rd_T57 l1_0 x33_2).f0, (rd_T57 l1_0 x33_2).f1, (rd_T57 l1_0 x33_2).f2, (rd_T57 l1_0 x33_2).f3, (rd_T57 l1_0 x33_2).f4, (rd_T57 l1_0 x33_2).f5, t226⟩ : S57), (wrap64 (a0_0 + 1))⟩ : S59) (Kd.R_mono (Kd.R_tight rfl (Kd.R_mono (ok' := fun k_ => ((fun k_ => some k_ ≠ (.slice Ao109 t213.length co109 : Value).ownBlock ∧ k_ ≠ gb218)) k_ ∧ some k_ ≠ (u199001 : Value).ownBlock) (Kd.R_types (Kd.R_apart' (HO228.out) (Kd.S_typed HO_199001.out) (by decide)) BK218.out (by decide)) (fun k_ hk => ⟨⟨hk.1.1, hk.2⟩, hk.1.2⟩))) (fun _ h_ => h_))); (case aB => exact W2_); (case aF => exact (fun k_ hk => ⟨Kd.fresh' (Kd.R_lt (R1_ HO215.out)) k_ hk, Kd.freshB (g := gb218) (o := .cells #[.string ((rd_T57 l1_0 x33_2).f0), .int .i64 ((rd_T57 l1_0 x33_2).f1), .int .i64 ((rd_T57 l1_0 x33_2).f2), .int .i64 ((rd_T57 l1_0 x33_2).f3), .bool ((rd_T57 l1_0 x33_2).f4), .bool ((rd_T57 l1_0 x33_2).f5), .slice Ao118 t226.length co118, .int .i64 (wrap64 (a0_0 + 1))] 59 (0, 0)) (B1_ BK218.out) k_ hk⟩)); (case aO => exact (by (with_reducible repeat (first | apply Kd.S_alloc | apply Kd.S_drewN | apply Kd.S_drew)); exact Kd.S_mono HO_199001.out (fun k_ hk => ⟨⟨hk.1, hk.2.2⟩, fun e_ => hk.2.1 e_⟩))); (case aS => exact (below_size W2_)); (case aL => have := LMc90.out; omega); intro v230 w126 ho hb hg hat; rw [← Ny229.out] at ho; have n0_ := Aside0.mk (blk_grown (g := gb193) (o := .cells #[.int .i64 a0_0, .slice A0_1 l0_1.length c0_1] 44 (0, 0)) (B1_ BK193.out) hg (Kd.S_ne HO_199001.out BK193.out (by decide))); have n1_ := Aside0.mk (blk_grown (g := gb194) (o := .cells #[.slice (some ad205) l1_0.length c1_0] 24 (0, 0)) (B1_ BK194.out) hg (Kd.S_ne HO_199001.out BK194.out (by decide))); have n2_ := Aside0.mk (blk_grown (g := gb195) (o := .cells #[.int .i64 0, .slice none 0 0] 44 (0, 0)) (B1_ BK195.out) hg (Kd.S_ne HO_199001.out BK195.out (by decide))); have n3_ := Aside0.mk (blk_grown (g := gb198) (o := .cells #[.int .i64 (wrap64 (a0_0 + 1)), u199001] 44 (0, 0)) (B1_ BK198.out) hg (Kd.S_ne HO_199001.out BK198.out (by decide))); have n4_ := Aside0.mk (blk_grown (g := gb206) (o := .cells #[.string ((rd_T57 l1_0 x33_2).f0), .int .i64 ((rd_T57 l1_0 x33_2).f1), .int .i64 ((rd_T57 l1_0 x33_2).f2), .int .i64 ((rd_T57 l1_0 x33_2).f3), .bool ((rd_T57 l1_0 x33_2).f4), .bool ((rd_T57 l1_0 x33_2).f5), .slice Ao118 t226.length co118] 57 (0, 0)) (B1_ BK206.out) hg (Kd.S_ne HO_199001.out BK206.out (by decide))); have n5_ := Aside0.mk (Kd.R_over' (R1_ HO215.out) (Kd.S_typed (by (with_reducible repeat (first | apply Kd.S_alloc | apply Kd.S_drewN | apply Kd.S_drew)); exact HO_199001.out)) (by decide) hg); have n6_ := Aside0.mk (blk_grown (g := gb218) (o := .cells #[.string ((rd_T57 l1_0 x33_2).f0), .int .i64 ((rd_T57 l1_0 x33_2).f1), .int .i64 ((rd_T57 l1_0 x33_2).f2), .int .i64 ((rd_T57 l1_0 x33_2).f3), .bool ((rd_T57 l1_0 x33_2).f4), .bool ((rd_T57 l1_0 x33_2).f5), .slice Ao118 t226.length co118, .int .i64 (wrap64 (a0_0 + 1))] 59 (0, 0)) (B1_ BK218.out) hg (Kd.S_away HO_199001.out (fun _ hk => hk.2.2))); have n7_ := Aside0.mk (hb); have n8_ := Aside0.mk (ho); clear BK193; clear BK194; clear BK195; clear BK198; clear BK206; clear HO215; clear BK218; clear HB; clear HO_199001; clear HO228; have BK193 := n0_; have BK194 := n1_; have BK195 := n2_; have BK198 := n3_; have BK206 := n4_; have HO215 := n5_; have BK218 := n6_; have HB := n7_; have HO231 := n8_; clear n0_ n1_ n2_ n3_ n4_ n5_ n6_ n7_ n8_; clear ho hb hg hat; obtain ⟨Ao127, co127, eo127⟩ := Kd.S_slice HO231.out; subst eo127; obtain ⟨z128_0, z128_1, y128_0, y128_1⟩ := cz2_ BK198.out))
            go_roundg k2
            case measure => have := HJ2.out; have := HK2.out; omega
            case rel => exact ⟨(wrap64 (x33_2 + 1)), (y229), (.slice Ao127 y229.length co127), E3_, H', ⟨by have := HJ2.out; have := HK2.out; omega⟩, ⟨by (with_reducible repeat (first | apply Kd.S_alloc | apply Kd.S_drewN | apply Kd.S_drew)); exact Kd.S_mono (Kd.S_far (p := ⟨gb198, 1, none⟩) (Kd.S_types HO231.out BK198.out (by decide)) (fun _ hk => hk.2) (.slice Ao127 y229.length co127)) (fun _ hk => trivial)⟩, ⟨G1_ BK193.out⟩, ⟨G1_ BK194.out⟩, ⟨G1_ BK195.out⟩, ⟨G1_ BK198.out⟩, ⟨W2_⟩⟩
           ·
            rw [if_neg c90] at H
            exact absurd H (by simp)
         ·
          replace c48 := Bool.eq_false_iff.mpr c48
          subst c48
          rw [if_neg (show ¬ (false = true) by decide)] at H
          obtain ⟨t232, A129, H⟩ := bS_ H
          try dsimp only at H
          by_cases c130 : x199001_2.length < 1759218604441
          ·
           rw [if_pos c130] at H
           have LMc130 := Aside0.mk c130
           clear c130
           obtain ⟨y235, hy235⟩ : ∃ y_ : List (S59), y_ = (x199001_2 ++ [(⟨(⟨(rd_T57 l1_0 x33_2).f0, (rd_T57 l1_0 x33_2).f1, (rd_T57 l1_0 x33_2).f2, (rd_T57 l1_0 x33_2).f3, (rd_T57 l1_0 x33_2).f4, (rd_T57 l1_0 x33_2).f5, t232⟩ : S57), (wrap64 (a0_0 + 1))⟩ : S59)]) := ⟨_, rfl⟩
           replace H : (plan_Table_Next.l0 k2 l1_0 (l1_0.length : Int) (wrap64 (x33_2 + 1)) a0_0 l0_1 l1_0 (wrap64 (a0_0 + 1)) y235) = some (r1, r2, r3, r4) := by first | (rw [hy235]; with_reducible exact H) | (have H2_ := (Option.bind_some _ _).symm.trans H; rw [hy235]; with_reducible exact H2_) | (have H2_ := (Option.bind_some _ _).symm.trans H; with_reducible exact H2_) | with_reducible exact H | (rw [hy235]; exact H) | exact H
           have Ny235 := Aside0.mk hy235
           clear hy235
           have H' := Aside0.mk H
           clear H
           have p205 : 0 ≤ (x33_2 : Int) := oA_
           have q205 : x33_2 < (l1_0.length : Int) := oA_
           obtain ⟨ad205, A205_6, c205_6, e205, hx205_0, hx205_1, hx205_2, hx205_3, hx205_4, hx205_5, hx205_6, hl205_6, hi205_6⟩ := at_T57 HR1_0.out x33_2 p205 q205
           cases e205
           replace hx205_0 := (HB.out.cell (World.block_lt_of_cell? w _ hx205_0)).trans hx205_0
           replace hx205_1 := (HB.out.cell (World.block_lt_of_cell? w _ hx205_1)).trans hx205_1
           replace hx205_2 := (HB.out.cell (World.block_lt_of_cell? w _ hx205_2)).trans hx205_2
           replace hx205_3 := (HB.out.cell (World.block_lt_of_cell? w _ hx205_3)).trans hx205_3
           replace hx205_4 := (HB.out.cell (World.block_lt_of_cell? w _ hx205_4)).trans hx205_4
           replace hx205_5 := (HB.out.cell (World.block_lt_of_cell? w _ hx205_5)).trans hx205_5
           replace hx205_6 := (HB.out.cell (World.block_lt_of_cell? w _ hx205_6)).trans hx205_6
           have HR205_6 := Aside0.mk hi205_6
           have HC205_6 := Aside0.mk hl205_6
           clear hi205_6 hl205_6
           replace p205 := eq_true p205
           replace q205 := eq_true q205
           go_wp2_with (first | ((with_reducible refine gate_dst (N := 9) rfl ?_); refine box_event ?hg (N := 9) ?hd (cs := #[.string (⟨#[]⟩ : ByteArray), .int .i64 0, .int .i64 0, .int .i64 0, .bool false, .bool false, .slice none 0 0]) (t := 57) ?hr ?_; (case hd | hg => rfl); (case hr => exact S1_); intro gb206 hg w131 hbox hb; have BK206 := Aside0.mk (hbox); have GW206 := Aside0.mk ((Z2_ : w.heap.size ≤ gb206)); have GE206 := Aside0.mk ((Z2_ : w.heap.size ≤ gb206)); have NB193_206 := Aside0.mk ((by rw [hg]; exact Nat.ne_of_lt (blk_lt (B1_ BK193.out)) : gb193 ≠ gb206)); have NB206_193 := Aside0.mk ((by rw [hg]; exact Nat.ne_of_gt (blk_lt (B1_ BK193.out)) : gb206 ≠ gb193)); have NB194_206 := Aside0.mk ((by rw [hg]; exact Nat.ne_of_lt (blk_lt (B1_ BK194.out)) : gb194 ≠ gb206)); have NB206_194 := Aside0.mk ((by rw [hg]; exact Nat.ne_of_gt (blk_lt (B1_ BK194.out)) : gb206 ≠ gb194)); have NB195_206 := Aside0.mk ((by rw [hg]; exact Nat.ne_of_lt (blk_lt (B1_ BK195.out)) : gb195 ≠ gb206)); have NB206_195 := Aside0.mk ((by rw [hg]; exact Nat.ne_of_gt (blk_lt (B1_ BK195.out)) : gb206 ≠ gb195)); have NB198_206 := Aside0.mk ((by rw [hg]; exact Nat.ne_of_lt (blk_lt (B1_ BK198.out)) : gb198 ≠ gb206)); have NB206_198 := Aside0.mk ((by rw [hg]; exact Nat.ne_of_gt (blk_lt (B1_ BK198.out)) : gb206 ≠ gb198)); replace HO_199001 := Aside0.mk (Kd.S_below (by (with_reducible repeat (first | apply Kd.S_alloc | apply Kd.S_drewN | apply Kd.S_drew)); exact HO_199001.out) hb); replace BK193 := yB_ BK193 hb; replace BK194 := yB_ BK194 hb; replace BK195 := yB_ BK195 hb; replace BK198 := yB_ BK198 hb; replace HB := y2_ hb; clear hb hbox hg; have hnb132 := NB206_193.out; have hnc132 := NB193_206.out; have hnb133 := NB206_194.out; have hnc133 := NB194_206.out; have hnb134 := NB206_195.out; have hnc134 := NB195_206.out; have hnb135 := NB206_198.out; have hnc135 := NB198_206.out; obtain ⟨z136_0, z136_1, z136_2, z136_3, z136_4, z136_5, z136_6, y136_0, y136_1, y136_2, y136_3, y136_4, y136_5, y136_6⟩ := cz7_ BK206.out; have hnb137 := NB193_194.out; have hnc137 := NB194_193.out; have hnb138 := NB193_195.out; have hnc138 := NB195_193.out; have hnb139 := NB193_198.out; have hnc139 := NB198_193.out; obtain ⟨z140_0, z140_1, y140_0, y140_1⟩ := cz2_ BK193.out) | ((with_reducible refine gate_callee (f := 24) rfl ?_); refine goesL_ (some 41) rfl rfl Tryz.func24 (by kernel_rfl) rfl #[.agg #[.int .i64 a0_0, .slice A0_1 l0_1.length c0_1], .string ((rd_T57 l1_0 x33_2).f0)] rfl T1_ ?_; (with_reducible refine (plan_Table_Find.calls k2 a0_0 _ _ l0_1 ((rd_T57 l1_0 x33_2).f0) t207 t208 t209 t210 t211 t212 t213 t216 false _ ?side1 ?side2 A47.out).mono ?_); (case side1 => exact Kd.C_below HR0_1.out W2_); (case side2 => exact HC0_1.out); rintro e w141 ⟨v214, rfl, ho0, hb⟩; refine ⟨_, rfl, ?_⟩; replace HO_199001 := Aside0.mk (Kd.S_elder' (by (with_reducible repeat (first | apply Kd.S_alloc | apply Kd.S_drewN | apply Kd.S_drew)); exact (Kd.S_mono (Kd.S_far (p := ⟨gb206, 6, none⟩) (Kd.S_far (p := ⟨gb206, 5, none⟩) (Kd.S_far (p := ⟨gb206, 4, none⟩) (Kd.S_far (p := ⟨gb206, 3, none⟩) (Kd.S_far (p := ⟨gb206, 2, none⟩) (Kd.S_far (p := ⟨gb206, 1, none⟩) (Kd.S_far (p := ⟨gb206, 0, none⟩) (Kd.S_types HO_199001.out BK206.out (by decide)) (fun _ hk => hk.2) (.string ((rd_T57 l1_0 x33_2).f0))) (fun _ hk => hk.2) (.int .i64 ((rd_T57 l1_0 x33_2).f1))) (fun _ hk => hk.2) (.int .i64 ((rd_T57 l1_0 x33_2).f2))) (fun _ hk => hk.2) (.int .i64 ((rd_T57 l1_0 x33_2).f3))) (fun _ hk => hk.2) (.bool ((rd_T57 l1_0 x33_2).f4))) (fun _ hk => hk.2) (.bool ((rd_T57 l1_0 x33_2).f5))) (fun _ hk => hk.2) (.slice A205_6 ((rd_T57 l1_0 x33_2).f6).length c205_6)) (fun _ h_ => h_.1))) (Kd.R_base ho0) hb); have HO215 := Aside0.mk (Kd.R_lower ho0 (below_size W2_)); replace BK193 := Aside0.mk (blk_below (g := gb193) (o := .cells #[.int .i64 a0_0, .slice A0_1 l0_1.length c0_1] 44 (0, 0)) (G1_ BK193.out) hb); replace BK194 := Aside0.mk (blk_below (g := gb194) (o := .cells #[.slice (some ad205) l1_0.length c1_0] 24 (0, 0)) (G1_ BK194.out) hb); replace BK195 := Aside0.mk (blk_below (g := gb195) (o := .cells #[.int .i64 0, .slice none 0 0] 44 (0, 0)) (G1_ BK195.out) hb); replace BK198 := Aside0.mk (blk_below (g := gb198) (o := .cells #[.int .i64 (wrap64 (a0_0 + 1)), u199001] 44 (0, 0)) (G1_ BK198.out) hb); replace BK206 := Aside0.mk (blk_below (g := gb206) (o := .cells #[.string ((rd_T57 l1_0 x33_2).f0), .int .i64 ((rd_T57 l1_0 x33_2).f1), .int .i64 ((rd_T57 l1_0 x33_2).f2), .int .i64 ((rd_T57 l1_0 x33_2).f3), .bool ((rd_T57 l1_0 x33_2).f4), .bool ((rd_T57 l1_0 x33_2).f5), .slice A205_6 ((rd_T57 l1_0 x33_2).f6).length c205_6] 57 (0, 0)) (G1_ BK206.out) hb); replace HB := y2_ hb; (try clear hb); (try clear hk); (try clear ho0)) | ((with_reducible refine gate_dst (N := 10) rfl ?_); refine box_event ?hg (N := 10) ?hd (cs := #[.string (⟨#[]⟩ : ByteArray), .int .i64 0, .int .i64 0, .int .i64 0, .bool false, .bool false, .slice none 0 0, .int .i64 0]) (t := 59) ?hr ?_; (case hd | hg => rfl); (case hr => exact S1_); intro gb218 hg w142 hbox hb; have BK218 := Aside0.mk (hbox); have GW218 := Aside0.mk ((Z2_ : w.heap.size ≤ gb218)); have GE218 := Aside0.mk ((Z2_ : w.heap.size ≤ gb218)); have NB193_218 := Aside0.mk ((by rw [hg]; exact Nat.ne_of_lt (blk_lt (B1_ BK193.out)) : gb193 ≠ gb218)); have NB218_193 := Aside0.mk ((by rw [hg]; exact Nat.ne_of_gt (blk_lt (B1_ BK193.out)) : gb218 ≠ gb193)); have NB194_218 := Aside0.mk ((by rw [hg]; exact Nat.ne_of_lt (blk_lt (B1_ BK194.out)) : gb194 ≠ gb218)); have NB218_194 := Aside0.mk ((by rw [hg]; exact Nat.ne_of_gt (blk_lt (B1_ BK194.out)) : gb218 ≠ gb194)); have NB195_218 := Aside0.mk ((by rw [hg]; exact Nat.ne_of_lt (blk_lt (B1_ BK195.out)) : gb195 ≠ gb218)); have NB218_195 := Aside0.mk ((by rw [hg]; exact Nat.ne_of_gt (blk_lt (B1_ BK195.out)) : gb218 ≠ gb195)); have NB198_218 := Aside0.mk ((by rw [hg]; exact Nat.ne_of_lt (blk_lt (B1_ BK198.out)) : gb198 ≠ gb218)); have NB218_198 := Aside0.mk ((by rw [hg]; exact Nat.ne_of_gt (blk_lt (B1_ BK198.out)) : gb218 ≠ gb198)); have NB206_218 := Aside0.mk ((by rw [hg]; exact Nat.ne_of_lt (blk_lt (B1_ BK206.out)) : gb206 ≠ gb218)); have NB218_206 := Aside0.mk ((by rw [hg]; exact Nat.ne_of_gt (blk_lt (B1_ BK206.out)) : gb218 ≠ gb206)); replace HO_199001 := Aside0.mk (Kd.S_below (Kd.S_elderB (by (with_reducible repeat (first | apply Kd.S_alloc | apply Kd.S_drewN | apply Kd.S_drew)); exact HO_199001.out) gb218 (Nat.le_of_eq hg.symm)) hb); replace HO215 := Aside0.mk (Kd.R_below (R1_ HO215.out) hb); replace BK193 := yB_ BK193 hb; replace BK194 := yB_ BK194 hb; replace BK195 := yB_ BK195 hb; replace BK198 := yB_ BK198 hb; replace BK206 := yB_ BK206 hb; replace HB := y2_ hb; clear hb hbox hg; have hnb143 := NB218_193.out; have hnc143 := NB193_218.out; have hnb144 := NB218_194.out; have hnc144 := NB194_218.out; have hnb145 := NB218_195.out; have hnc145 := NB195_218.out; have hnb146 := NB218_198.out; have hnc146 := NB198_218.out; have hnb147 := NB218_206.out; have hnc147 := NB206_218.out; obtain ⟨z148_0, z148_1, z148_2, z148_3, z148_4, z148_5, z148_6, z148_7, y148_0, y148_1, y148_2, y148_3, y148_4, y148_5, y148_6, y148_7⟩ := cz8_ BK218.out; obtain ⟨Ao149, co149, eo149⟩ := Kd.R_slice HO215.out; subst eo149; have hnb150 := NB198_194.out; have hnc150 := NB194_198.out; have hnb151 := NB198_195.out; have hnc151 := NB195_198.out; obtain ⟨z152_0, z152_1, y152_0, y152_1⟩ := cz2_ BK198.out; obtain ⟨z153_0, z153_1, z153_2, z153_3, z153_4, z153_5, z153_6, y153_0, y153_1, y153_2, y153_3, y153_4, y153_5, y153_6⟩ := cz7_ BK206.out) | ((with_reducible refine gate_callee (f := 40) rfl ?_); refine goesL_ (some 58) rfl rfl Tryz.func40 (by kernel_rfl) rfl #[.slice A205_6 ((rd_T57 l1_0 x33_2).f6).length c205_6] rfl T1_ ?_; (with_reducible refine (slices_Clone_string_string.calls _ _ ((rd_T57 l1_0 x33_2).f6) t232 _ ?side1 ?side2 A129.out).mono ?_); (case side1 => exact Kd.C_below HR205_6.out W2_); (case side2 => exact HC205_6.out); rintro e w154 ⟨v233, rfl, ho0, hb⟩; refine ⟨_, rfl, ?_⟩; have HO234 := Aside0.mk (Kd.R_lower (Kd.R_new' ho0 (Kd.R_lt (by refine R1_ ?_; exact (Kd.R_mono (Kd.R_far (p := ⟨gb218, 7, none⟩) (Kd.R_far (p := ⟨gb218, 6, none⟩) (Kd.R_far (p := ⟨gb218, 5, none⟩) (Kd.R_far (p := ⟨gb218, 4, none⟩) (Kd.R_far (p := ⟨gb218, 3, none⟩) (Kd.R_far (p := ⟨gb218, 2, none⟩) (Kd.R_far (p := ⟨gb218, 1, none⟩) (Kd.R_far (p := ⟨gb218, 0, none⟩) (Kd.R_far (p := ⟨gb218, 7, none⟩) (Kd.R_far (p := ⟨gb218, 6, none⟩) (Kd.R_far (p := ⟨gb218, 5, none⟩) (Kd.R_far (p := ⟨gb218, 4, none⟩) (Kd.R_far (p := ⟨gb218, 3, none⟩) (Kd.R_far (p := ⟨gb218, 2, none⟩) (Kd.R_far (p := ⟨gb218, 1, none⟩) (Kd.R_far (p := ⟨gb218, 0, none⟩) (Kd.R_types HO215.out BK218.out (by decide)) (fun _ hk => hk.2) (.string t207)) (fun _ hk => hk.2) (.int .i64 t208)) (fun _ hk => hk.2) (.int .i64 t209)) (fun _ hk => hk.2) (.int .i64 t210)) (fun _ hk => hk.2) (.bool t211)) (fun _ hk => hk.2) (.bool t212)) (fun _ hk => hk.2) (.slice Ao149 t213.length co149)) (fun _ hk => hk.2) (.int .i64 t216)) (fun _ hk => hk.2) (.string (⟨#[]⟩ : ByteArray))) (fun _ hk => hk.2) (.int .i64 0)) (fun _ hk => hk.2) (.int .i64 0)) (fun _ hk => hk.2) (.int .i64 0)) (fun _ hk => hk.2) (.bool false)) (fun _ hk => hk.2) (.bool false)) (fun _ hk => hk.2) (.slice none 0 0)) (fun _ hk => hk.2) (.int .i64 (wrap64 (a0_0 + 1)))) (fun _ h_ => h_.1))))) (below_size W2_)); replace HO_199001 := Aside0.mk (Kd.S_elder' (by (with_reducible repeat (first | apply Kd.S_alloc | apply Kd.S_drewN | apply Kd.S_drew)); exact (Kd.S_mono (Kd.S_far (p := ⟨gb218, 7, none⟩) (Kd.S_far (p := ⟨gb218, 6, none⟩) (Kd.S_far (p := ⟨gb218, 5, none⟩) (Kd.S_far (p := ⟨gb218, 4, none⟩) (Kd.S_far (p := ⟨gb218, 3, none⟩) (Kd.S_far (p := ⟨gb218, 2, none⟩) (Kd.S_far (p := ⟨gb218, 1, none⟩) (Kd.S_far (p := ⟨gb218, 0, none⟩) (Kd.S_far (p := ⟨gb218, 7, none⟩) (Kd.S_far (p := ⟨gb218, 6, none⟩) (Kd.S_far (p := ⟨gb218, 5, none⟩) (Kd.S_far (p := ⟨gb218, 4, none⟩) (Kd.S_far (p := ⟨gb218, 3, none⟩) (Kd.S_far (p := ⟨gb218, 2, none⟩) (Kd.S_far (p := ⟨gb218, 1, none⟩) (Kd.S_far (p := ⟨gb218, 0, none⟩) (Kd.S_mono HO_199001.out (fun k_ hk => (⟨hk, hk.2⟩ : _ ∧ k_ ≠ gb218))) (fun _ hk => hk.2) (.string t207)) (fun _ hk => hk.2) (.int .i64 t208)) (fun _ hk => hk.2) (.int .i64 t209)) (fun _ hk => hk.2) (.int .i64 t210)) (fun _ hk => hk.2) (.bool t211)) (fun _ hk => hk.2) (.bool t212)) (fun _ hk => hk.2) (.slice Ao149 t213.length co149)) (fun _ hk => hk.2) (.int .i64 t216)) (fun _ hk => hk.2) (.string (⟨#[]⟩ : ByteArray))) (fun _ hk => hk.2) (.int .i64 0)) (fun _ hk => hk.2) (.int .i64 0)) (fun _ hk => hk.2) (.int .i64 0)) (fun _ hk => hk.2) (.bool false)) (fun _ hk => hk.2) (.bool false)) (fun _ hk => hk.2) (.slice none 0 0)) (fun _ hk => hk.2) (.int .i64 (wrap64 (a0_0 + 1)))) (fun _ h_ => h_.1))) (Kd.R_base ho0) hb); replace HO215 := Aside0.mk (Kd.R_elder' (by refine R1_ ?_; exact (Kd.R_mono (Kd.R_far (p := ⟨gb218, 7, none⟩) (Kd.R_far (p := ⟨gb218, 6, none⟩) (Kd.R_far (p := ⟨gb218, 5, none⟩) (Kd.R_far (p := ⟨gb218, 4, none⟩) (Kd.R_far (p := ⟨gb218, 3, none⟩) (Kd.R_far (p := ⟨gb218, 2, none⟩) (Kd.R_far (p := ⟨gb218, 1, none⟩) (Kd.R_far (p := ⟨gb218, 0, none⟩) (Kd.R_far (p := ⟨gb218, 7, none⟩) (Kd.R_far (p := ⟨gb218, 6, none⟩) (Kd.R_far (p := ⟨gb218, 5, none⟩) (Kd.R_far (p := ⟨gb218, 4, none⟩) (Kd.R_far (p := ⟨gb218, 3, none⟩) (Kd.R_far (p := ⟨gb218, 2, none⟩) (Kd.R_far (p := ⟨gb218, 1, none⟩) (Kd.R_far (p := ⟨gb218, 0, none⟩) (Kd.R_types HO215.out BK218.out (by decide)) (fun _ hk => hk.2) (.string t207)) (fun _ hk => hk.2) (.int .i64 t208)) (fun _ hk => hk.2) (.int .i64 t209)) (fun _ hk => hk.2) (.int .i64 t210)) (fun _ hk => hk.2) (.bool t211)) (fun _ hk => hk.2) (.bool t212)) (fun _ hk => hk.2) (.slice Ao149 t213.length co149)) (fun _ hk => hk.2) (.int .i64 t216)) (fun _ hk => hk.2) (.string (⟨#[]⟩ : ByteArray))) (fun _ hk => hk.2) (.int .i64 0)) (fun _ hk => hk.2) (.int .i64 0)) (fun _ hk => hk.2) (.int .i64 0)) (fun _ hk => hk.2) (.bool false)) (fun _ hk => hk.2) (.bool false)) (fun _ hk => hk.2) (.slice none 0 0)) (fun _ hk => hk.2) (.int .i64 (wrap64 (a0_0 + 1)))) (fun _ h_ => h_.1))) (Kd.R_base ho0) hb); replace BK193 := Aside0.mk (blk_below (g := gb193) (o := .cells #[.int .i64 a0_0, .slice A0_1 l0_1.length c0_1] 44 (0, 0)) (G1_ BK193.out) hb); replace BK194 := Aside0.mk (blk_below (g := gb194) (o := .cells #[.slice (some ad205) l1_0.length c1_0] 24 (0, 0)) (G1_ BK194.out) hb); replace BK195 := Aside0.mk (blk_below (g := gb195) (o := .cells #[.int .i64 0, .slice none 0 0] 44 (0, 0)) (G1_ BK195.out) hb); replace BK198 := Aside0.mk (blk_below (g := gb198) (o := .cells #[.int .i64 (wrap64 (a0_0 + 1)), u199001] 44 (0, 0)) (G1_ BK198.out) hb); replace BK206 := Aside0.mk (blk_below (g := gb206) (o := .cells #[.string ((rd_T57 l1_0 x33_2).f0), .int .i64 ((rd_T57 l1_0 x33_2).f1), .int .i64 ((rd_T57 l1_0 x33_2).f2), .int .i64 ((rd_T57 l1_0 x33_2).f3), .bool ((rd_T57 l1_0 x33_2).f4), .bool ((rd_T57 l1_0 x33_2).f5), .slice A205_6 ((rd_T57 l1_0 x33_2).f6).length c205_6] 57 (0, 0)) (G1_ BK206.out) hb); replace BK218 := Aside0.mk (blk_below (g := gb218) (o := .cells #[.string (⟨#[]⟩ : ByteArray), .int .i64 0, .int .i64 0, .int .i64 0, .bool false, .bool false, .slice none 0 0, .int .i64 (wrap64 (a0_0 + 1))] 59 (0, 0)) (G1_ BK218.out) hb); replace HB := y2_ hb; (try clear hb); (try clear hk); (try clear ho0); obtain ⟨Ao155, co155, eo155⟩ := Kd.R_slice HO234.out; subst eo155; obtain ⟨z156_0, z156_1, z156_2, z156_3, z156_4, z156_5, z156_6, y156_0, y156_1, y156_2, y156_3, y156_4, y156_5, y156_6⟩ := cz7_ BK206.out) | ((with_reducible refine gate_store (t := 55) (p := 59) rfl ?_); refine store_event (t := 55) (p := 59) (v := ?vo_w157) (w1 := (w154.setCell ⟨gb206, 6, none⟩ (.slice Ao155 t232.length co155))) ?hg ?ho ?hn ?hr ?_; (case ho => rfl); (case hg => rfl); (case hn => rfl); (case hr => first | (go_simp; done) | (go_simp; rfl)); intro w157 hw; have n0_ : Aside0 (Kd.S k59 59 w157 w.heap.size (fun k_ => some k_ ≠ (.slice Ao149 t213.length co149 : Value).ownBlock ∧ some k_ ≠ (.slice Ao155 t232.length co155 : Value).ownBlock ∧ k_ ≠ gb218) u199001 x199001_2) := ⟨(by rw [hw]; exact (by (with_reducible repeat (first | apply Kd.S_alloc | apply Kd.S_drewN | apply Kd.S_drew)); exact Kd.S_mono (Kd.S_far (p := ⟨gb206, 6, none⟩) (Kd.S_types HO_199001.out BK206.out (by decide)) (fun _ hk => hk.2) (.slice Ao155 t232.length co155)) (fun _ hk => by first | exact ⟨hk.1.1.1.2, ⟨hk.1.2, hk.1.1.2⟩⟩ | simp_all)))⟩; have n1_ : Aside0 (Kd.R Kd.string 9 w157 w.heap.size (fun k_ => some k_ ≠ (.slice Ao155 t232.length co155 : Value).ownBlock) (.slice Ao149 t213.length co149) t213) := ⟨(by rw [hw]; exact (by refine R1_ ?_; exact Kd.R_mono (Kd.R_far (p := ⟨gb206, 6, none⟩) (Kd.R_types HO215.out BK206.out (by decide)) (fun _ hk => hk.2) (.slice Ao155 t232.length co155)) (fun _ hk => hk.1.2)))⟩; have n2_ : Aside0 (Kd.R Kd.string 9 w157 w.heap.size (fun k_ => some k_ ≠ (.slice Ao149 t213.length co149 : Value).ownBlock) (.slice Ao155 t232.length co155) t232) := ⟨(by rw [hw]; exact (by refine R1_ ?_; exact Kd.R_mono (Kd.R_far (p := ⟨gb206, 6, none⟩) (Kd.R_types HO234.out BK206.out (by decide)) (fun _ hk => hk.2) (.slice Ao155 t232.length co155)) (fun _ hk => hk.1.2)))⟩; have n3_ : Aside0 (w157.heap[gb193]? = some (.cells #[.int .i64 a0_0, .slice A0_1 l0_1.length c0_1] 44 (0, 0))) := ⟨(by rw [hw]; exact (G1_ BK193.out))⟩; have n4_ : Aside0 (w157.heap[gb194]? = some (.cells #[.slice (some ad205) l1_0.length c1_0] 24 (0, 0))) := ⟨(by rw [hw]; exact (G1_ BK194.out))⟩; have n5_ : Aside0 (w157.heap[gb195]? = some (.cells #[.int .i64 0, .slice none 0 0] 44 (0, 0))) := ⟨(by rw [hw]; exact (G1_ BK195.out))⟩; have n6_ : Aside0 (w157.heap[gb198]? = some (.cells #[.int .i64 (wrap64 (a0_0 + 1)), u199001] 44 (0, 0))) := ⟨(by rw [hw]; exact (G1_ BK198.out))⟩; have n7_ : Aside0 (w157.heap[gb206]? = some (.cells #[.string ((rd_T57 l1_0 x33_2).f0), .int .i64 ((rd_T57 l1_0 x33_2).f1), .int .i64 ((rd_T57 l1_0 x33_2).f2), .int .i64 ((rd_T57 l1_0 x33_2).f3), .bool ((rd_T57 l1_0 x33_2).f4), .bool ((rd_T57 l1_0 x33_2).f5), .slice Ao155 t232.length co155] 57 (0, 0))) := ⟨(by rw [hw]; exact (G1_ BK206.out))⟩; have n8_ : Aside0 (w157.heap[gb218]? = some (.cells #[.string (⟨#[]⟩ : ByteArray), .int .i64 0, .int .i64 0, .int .i64 0, .bool false, .bool false, .slice none 0 0, .int .i64 (wrap64 (a0_0 + 1))] 59 (0, 0))) := ⟨(by rw [hw]; exact (G1_ BK218.out))⟩; have n9_ : Aside0 (Below w.heap.size w w157) := ⟨(by rw [hw]; exact W2_)⟩; clear hw; clear HO_199001; clear HO215; clear HO234; clear BK193; clear BK194; clear BK195; clear BK198; clear BK206; clear BK218; clear HB; have HO_199001 := n0_; have HO215 := n1_; have HO234 := n2_; have BK193 := n3_; have BK194 := n4_; have BK195 := n5_; have BK198 := n6_; have BK206 := n7_; have BK218 := n8_; have HB := n9_; clear n0_ n1_ n2_ n3_ n4_ n5_ n6_ n7_ n8_ n9_; obtain ⟨z158_0, z158_1, z158_2, z158_3, z158_4, z158_5, z158_6, y158_0, y158_1, y158_2, y158_3, y158_4, y158_5, y158_6⟩ := cz7_ BK206.out; obtain ⟨z159_0, z159_1, z159_2, z159_3, z159_4, z159_5, z159_6, z159_7, y159_0, y159_1, y159_2, y159_3, y159_4, y159_5, y159_6, y159_7⟩ := cz8_ BK218.out) | ((with_reducible refine gate_store (t := 57) (p := 61) rfl ?_); refine store_event (t := 57) (p := 61) (v := ?vo_w160) (w1 := (((((((w157.setCell ⟨gb218, 0, none⟩ (.string ((rd_T57 l1_0 x33_2).f0))).setCell ⟨gb218, 1, none⟩ (.int .i64 ((rd_T57 l1_0 x33_2).f1))).setCell ⟨gb218, 2, none⟩ (.int .i64 ((rd_T57 l1_0 x33_2).f2))).setCell ⟨gb218, 3, none⟩ (.int .i64 ((rd_T57 l1_0 x33_2).f3))).setCell ⟨gb218, 4, none⟩ (.bool ((rd_T57 l1_0 x33_2).f4))).setCell ⟨gb218, 5, none⟩ (.bool ((rd_T57 l1_0 x33_2).f5))).setCell ⟨gb218, 6, none⟩ (.slice Ao155 t232.length co155))) ?hg ?ho ?hn ?hr ?_; (case ho => rfl); (case hg => rfl); (case hn => rfl); (case hr => first | (go_simp; done) | (go_simp; rfl)); intro w160 hw; have n0_ : Aside0 (Kd.S k59 59 w160 w.heap.size (fun k_ => some k_ ≠ (.slice Ao149 t213.length co149 : Value).ownBlock ∧ some k_ ≠ (.slice Ao155 t232.length co155 : Value).ownBlock ∧ k_ ≠ gb218) u199001 x199001_2) := ⟨(by rw [hw]; exact (by (with_reducible repeat (first | apply Kd.S_alloc | apply Kd.S_drewN | apply Kd.S_drew)); exact Kd.S_mono (Kd.S_far (p := ⟨gb218, 6, none⟩) (Kd.S_far (p := ⟨gb218, 5, none⟩) (Kd.S_far (p := ⟨gb218, 4, none⟩) (Kd.S_far (p := ⟨gb218, 3, none⟩) (Kd.S_far (p := ⟨gb218, 2, none⟩) (Kd.S_far (p := ⟨gb218, 1, none⟩) (Kd.S_far (p := ⟨gb218, 0, none⟩) (Kd.S_mono HO_199001.out (fun k_ hk => (⟨hk, hk.2.2⟩ : _ ∧ k_ ≠ gb218))) (fun _ hk => hk.2) (.string ((rd_T57 l1_0 x33_2).f0))) (fun _ hk => hk.2) (.int .i64 ((rd_T57 l1_0 x33_2).f1))) (fun _ hk => hk.2) (.int .i64 ((rd_T57 l1_0 x33_2).f2))) (fun _ hk => hk.2) (.int .i64 ((rd_T57 l1_0 x33_2).f3))) (fun _ hk => hk.2) (.bool ((rd_T57 l1_0 x33_2).f4))) (fun _ hk => hk.2) (.bool ((rd_T57 l1_0 x33_2).f5))) (fun _ hk => hk.2) (.slice Ao155 t232.length co155)) (fun _ hk => by first | exact ⟨hk.1.1, ⟨hk.1.2.1, hk.1.2.2⟩⟩ | simp_all)))⟩; have n1_ : Aside0 (Kd.R Kd.string 9 w160 w.heap.size (fun k_ => some k_ ≠ (.slice Ao155 t232.length co155 : Value).ownBlock) (.slice Ao149 t213.length co149) t213) := ⟨(by rw [hw]; exact (by refine R1_ ?_; exact Kd.R_mono (Kd.R_far (p := ⟨gb218, 6, none⟩) (Kd.R_far (p := ⟨gb218, 5, none⟩) (Kd.R_far (p := ⟨gb218, 4, none⟩) (Kd.R_far (p := ⟨gb218, 3, none⟩) (Kd.R_far (p := ⟨gb218, 2, none⟩) (Kd.R_far (p := ⟨gb218, 1, none⟩) (Kd.R_far (p := ⟨gb218, 0, none⟩) (Kd.R_types HO215.out BK218.out (by decide)) (fun _ hk => hk.2) (.string ((rd_T57 l1_0 x33_2).f0))) (fun _ hk => hk.2) (.int .i64 ((rd_T57 l1_0 x33_2).f1))) (fun _ hk => hk.2) (.int .i64 ((rd_T57 l1_0 x33_2).f2))) (fun _ hk => hk.2) (.int .i64 ((rd_T57 l1_0 x33_2).f3))) (fun _ hk => hk.2) (.bool ((rd_T57 l1_0 x33_2).f4))) (fun _ hk => hk.2) (.bool ((rd_T57 l1_0 x33_2).f5))) (fun _ hk => hk.2) (.slice Ao155 t232.length co155)) (fun _ hk => hk.1)))⟩; have n2_ : Aside0 (Kd.R Kd.string 9 w160 w.heap.size (fun k_ => some k_ ≠ (.slice Ao149 t213.length co149 : Value).ownBlock) (.slice Ao155 t232.length co155) t232) := ⟨(by rw [hw]; exact (by refine R1_ ?_; exact Kd.R_mono (Kd.R_far (p := ⟨gb218, 6, none⟩) (Kd.R_far (p := ⟨gb218, 5, none⟩) (Kd.R_far (p := ⟨gb218, 4, none⟩) (Kd.R_far (p := ⟨gb218, 3, none⟩) (Kd.R_far (p := ⟨gb218, 2, none⟩) (Kd.R_far (p := ⟨gb218, 1, none⟩) (Kd.R_far (p := ⟨gb218, 0, none⟩) (Kd.R_types HO234.out BK218.out (by decide)) (fun _ hk => hk.2) (.string ((rd_T57 l1_0 x33_2).f0))) (fun _ hk => hk.2) (.int .i64 ((rd_T57 l1_0 x33_2).f1))) (fun _ hk => hk.2) (.int .i64 ((rd_T57 l1_0 x33_2).f2))) (fun _ hk => hk.2) (.int .i64 ((rd_T57 l1_0 x33_2).f3))) (fun _ hk => hk.2) (.bool ((rd_T57 l1_0 x33_2).f4))) (fun _ hk => hk.2) (.bool ((rd_T57 l1_0 x33_2).f5))) (fun _ hk => hk.2) (.slice Ao155 t232.length co155)) (fun _ hk => hk.1)))⟩; have n3_ : Aside0 (w160.heap[gb193]? = some (.cells #[.int .i64 a0_0, .slice A0_1 l0_1.length c0_1] 44 (0, 0))) := ⟨(by rw [hw]; exact (G1_ BK193.out))⟩; have n4_ : Aside0 (w160.heap[gb194]? = some (.cells #[.slice (some ad205) l1_0.length c1_0] 24 (0, 0))) := ⟨(by rw [hw]; exact (G1_ BK194.out))⟩; have n5_ : Aside0 (w160.heap[gb195]? = some (.cells #[.int .i64 0, .slice none 0 0] 44 (0, 0))) := ⟨(by rw [hw]; exact (G1_ BK195.out))⟩; have n6_ : Aside0 (w160.heap[gb198]? = some (.cells #[.int .i64 (wrap64 (a0_0 + 1)), u199001] 44 (0, 0))) := ⟨(by rw [hw]; exact (G1_ BK198.out))⟩; have n7_ : Aside0 (w160.heap[gb206]? = some (.cells #[.string ((rd_T57 l1_0 x33_2).f0), .int .i64 ((rd_T57 l1_0 x33_2).f1), .int .i64 ((rd_T57 l1_0 x33_2).f2), .int .i64 ((rd_T57 l1_0 x33_2).f3), .bool ((rd_T57 l1_0 x33_2).f4), .bool ((rd_T57 l1_0 x33_2).f5), .slice Ao155 t232.length co155] 57 (0, 0))) := ⟨(by rw [hw]; exact (G1_ BK206.out))⟩; have n8_ : Aside0 (w160.heap[gb218]? = some (.cells #[.string ((rd_T57 l1_0 x33_2).f0), .int .i64 ((rd_T57 l1_0 x33_2).f1), .int .i64 ((rd_T57 l1_0 x33_2).f2), .int .i64 ((rd_T57 l1_0 x33_2).f3), .bool ((rd_T57 l1_0 x33_2).f4), .bool ((rd_T57 l1_0 x33_2).f5), .slice Ao155 t232.length co155, .int .i64 (wrap64 (a0_0 + 1))] 59 (0, 0))) := ⟨(by rw [hw]; exact (G1_ BK218.out))⟩; have n9_ : Aside0 (Below w.heap.size w w160) := ⟨(by rw [hw]; exact W2_)⟩; clear hw; clear HO_199001; clear HO215; clear HO234; clear BK193; clear BK194; clear BK195; clear BK198; clear BK206; clear BK218; clear HB; have HO_199001 := n0_; have HO215 := n1_; have HO234 := n2_; have BK193 := n3_; have BK194 := n4_; have BK195 := n5_; have BK198 := n6_; have BK206 := n7_; have BK218 := n8_; have HB := n9_; clear n0_ n1_ n2_ n3_ n4_ n5_ n6_ n7_ n8_ n9_; obtain ⟨z161_0, z161_1, y161_0, y161_1⟩ := cz2_ BK198.out; obtain ⟨z162_0, z162_1, z162_2, z162_3, z162_4, z162_5, z162_6, z162_7, y162_0, y162_1, y162_2, y162_3, y162_4, y162_5, y162_6, y162_7⟩ := cz8_ BK218.out) | ((with_reducible refine gate_builtin (b := .append) (xs := #[.tmp 63, .tmp 65]) rfl ?_); at_builtin; refine Kd.S_append k59 (w0 := w) w.heap.size rfl (.tmp 63) (.tmp 65) 42 59 (.agg #[(.string ⟨#[]⟩), (.int .i64 0), (.int .i64 0), (.int .i64 0), (.bool false), (.bool false), (.slice none 0 0), (.int .i64 0)]) 80 rfl Tryz.underlying42 info59 rfl (by decide) (by omega) u199001 x199001_2 (⟨(⟨(rd_T57 l1_0 x33_2).f0, (rd_T57 l1_0 x33_2).f1, (rd_T57 l1_0 x33_2).f2, (rd_T57 l1_0 x33_2).f3, (rd_T57 l1_0 x33_2).f4, (rd_T57 l1_0 x33_2).f5, t232⟩ : S57), (wrap64 (a0_0 + 1))⟩ : S59) [.string ((rd_T57 l1_0 x33_2).f0), .int .i64 ((rd_T57 l1_0 x33_2).f1), .int .i64 ((rd_T57 l1_0 x33_2).f2), .int .i64 ((rd_T57 l1_0 x33_2).f3), .bool ((rd_T57 l1_0 x33_2).f4), .bool ((rd_T57 l1_0 x33_2).f5), .slice Ao155 t232.length co155, .int .i64 (wrap64 (a0_0 + 1))] (fun k_ => some k_ ≠ (.slice Ao149 t213.length co149 : Value).ownBlock ∧ k_ ≠ gb218) (fun k_ => some k_ = (.slice Ao155 t232.length co155 : Value).ownBlock) rfl rfl ?aP (fun k_ hk_ => ((Kd.R_mono (ok' := fun k_ => ((fun k_ => some k_ ≠ (.slice Ao149 t213.length co149 : Value).ownBlock ∧ k_ ≠ gb218)) k_ ∧ some k_ ≠ (u199001 : Value).ownBlock) (Kd.R_types (Kd.R_apart' (HO234.out) (Kd.S_typed HO_199001.out) (by decide)) BK218.out (by decide)) (fun k_ hk => ⟨⟨hk.1.1, hk.2⟩, hk.1.2⟩))).1 k_ hk_.symm) ?aF ?aO ?aB ?aS ?aL ?_; (case aP => exact k59_mkM _ _ _ (⟨(⟨(rd_T57 l1_0 x33_2).f0, (rd_T57 l1_0 x33_2).f1, (rd_T57 l1_0 x33_2).f2, (rd_T57 l1_0 x33_2).f3, (rd_T57 l1_0 x33_2).f4, (rd_T57 l1_0 x33_2).f5, t232⟩ : S57), (wrap64 (a0_0 + 1))⟩ : S59) (Kd.R_mono (Kd.R_tight rfl (Kd.R_mono (ok' := fun k_ => ((fun k_ => some k_ ≠ (.slice Ao149 t213.length co149 : Value).ownBlock ∧ k_ ≠ gb218)) k_ ∧ some k_ ≠ (u199001 : Value).ownBlock) (Kd.R_types (Kd.R_apart' (HO234.out) (Kd.S_typed HO_199001.out) (by decide)) BK218.out (by decide)) (fun k_ hk => ⟨⟨hk.1.1, hk.2⟩, hk.1.2⟩))) (fun _ h_ => h_))); (case aB => exact W2_); (case aF => exact (fun k_ hk => ⟨Kd.fresh' (Kd.R_lt (R1_ HO215.out)) k_ hk, Kd.freshB (g := gb218) (o := .cells #[.string ((rd_T57 l1_0 x33_2).f0), .int .i64 ((rd_T57 l1_0 x33_2).f1), .int .i64 ((rd_T57 l1_0 x33_2).f2), .int .i64 ((rd_T57 l1_0 x33_2).f3), .bool ((rd_T57 l1_0 x33_2).f4), .bool ((rd_T57 l1_0 x33_2).f5), .slice Ao155 t232.length co155, .int .i64 (wrap64 (a0_0 + 1))] 59 (0, 0)) (B1_ BK218.out) k_ hk⟩)); (case aO => exact (by (with_reducible repeat (first | apply Kd.S_alloc | apply Kd.S_drewN | apply Kd.S_drew)); exact Kd.S_mono HO_199001.out (fun k_ hk => ⟨⟨hk.1, hk.2.2⟩, fun e_ => hk.2.1 e_⟩))); (case aS => exact (below_size W2_)); (case aL => have := LMc130.out; omega); intro v236 w163 ho hb hg hat; rw [← Ny235.out] at ho; have n0_ := Aside0.mk (blk_grown (g := gb193) (o := .cells #[.int .i64 a0_0, .slice A0_1 l0_1.length c0_1] 44 (0, 0)) (B1_ BK193.out) hg (Kd.S_ne HO_199001.out BK193.out (by decide))); have n1_ := Aside0.mk (blk_grown (g := gb194) (o := .cells #[.slice (some ad205) l1_0.length c1_0] 24 (0, 0)) (B1_ BK194.out) hg (Kd.S_ne HO_199001.out BK194.out (by decide))); have n2_ := Aside0.mk (blk_grown (g := gb195) (o := .cells #[.int .i64 0, .slice none 0 0] 44 (0, 0)) (B1_ BK195.out) hg (Kd.S_ne HO_199001.out BK195.out (by decide))); have n3_ := Aside0.mk (blk_grown (g := gb198) (o := .cells #[.int .i64 (wrap64 (a0_0 + 1)), u199001] 44 (0, 0)) (B1_ BK198.out) hg (Kd.S_ne HO_199001.out BK198.out (by decide))); have n4_ := Aside0.mk (blk_grown (g := gb206) (o := .cells #[.string ((rd_T57 l1_0 x33_2).f0), .int .i64 ((rd_T57 l1_0 x33_2).f1), .int .i64 ((rd_T57 l1_0 x33_2).f2), .int .i64 ((rd_T57 l1_0 x33_2).f3), .bool ((rd_T57 l1_0 x33_2).f4), .bool ((rd_T57 l1_0 x33_2).f5), .slice Ao155 t232.length co155] 57 (0, 0)) (B1_ BK206.out) hg (Kd.S_ne HO_199001.out BK206.out (by decide))); have n5_ := Aside0.mk (Kd.R_over' (R1_ HO215.out) (Kd.S_typed (by (with_reducible repeat (first | apply Kd.S_alloc | apply Kd.S_drewN | apply Kd.S_drew)); exact HO_199001.out)) (by decide) hg); have n6_ := Aside0.mk (blk_grown (g := gb218) (o := .cells #[.string ((rd_T57 l1_0 x33_2).f0), .int .i64 ((rd_T57 l1_0 x33_2).f1), .int .i64 ((rd_T57 l1_0 x33_2).f2), .int .i64 ((rd_T57 l1_0 x33_2).f3), .bool ((rd_T57 l1_0 x33_2).f4), .bool ((rd_T57 l1_0 x33_2).f5), .slice Ao155 t232.length co155, .int .i64 (wrap64 (a0_0 + 1))] 59 (0, 0)) (B1_ BK218.out) hg (Kd.S_away HO_199001.out (fun _ hk => hk.2.2))); have n7_ := Aside0.mk (hb); have n8_ := Aside0.mk (ho); clear BK193; clear BK194; clear BK195; clear BK198; clear BK206; clear HO215; clear BK218; clear HB; clear HO_199001; clear HO234; have BK193 := n0_; have BK194 := n1_; have BK195 := n2_; have BK198 := n3_; have BK206 := n4_; have HO215 := n5_; have BK218 := n6_; have HB := n7_; have HO237 := n8_; clear n0_ n1_ n2_ n3_ n4_ n5_ n6_ n7_ n8_; clear ho hb hg hat; obtain ⟨Ao164, co164, eo164⟩ := Kd.S_slice HO237.out; subst eo164; obtain ⟨z165_0, z165_1, y165_0, y165_1⟩ := cz2_ BK198.out))
           go_roundg k2
           case measure => have := HJ2.out; have := HK2.out; omega
           case rel => exact ⟨(wrap64 (x33_2 + 1)), (y235), (.slice Ao164 y235.length co164), E3_, H', ⟨by have := HJ2.out; have := HK2.out; omega⟩, ⟨by (with_reducible repeat (first | apply Kd.S_alloc | apply Kd.S_drewN | apply Kd.S_drew)); exact Kd.S_mono (Kd.S_far (p := ⟨gb198, 1, none⟩) (Kd.S_types HO237.out BK198.out (by decide)) (fun _ hk => hk.2) (.slice Ao164 y235.length co164)) (fun _ hk => trivial)⟩, ⟨G1_ BK193.out⟩, ⟨G1_ BK194.out⟩, ⟨G1_ BK195.out⟩, ⟨G1_ BK198.out⟩, ⟨W2_⟩⟩
          ·
           rw [if_neg c130] at H
           exact absurd H (by simp)
        ·
         rw [if_neg c46] at H
         exact absurd H (by simp)
       ·
        rw [if_neg c45] at H
        exact absurd H (by simp)
      ·
       rw [if_neg c44] at H
       have c44b0 : decide (x33_2 < (l1_0.length : Int)) = false := decide_eq_false c44
       clear c44
       obtain ⟨t199, A166, H⟩ := bS_ H
       try dsimp only at H
       obtain ⟨t202, A167, H⟩ := bS_ H
       try dsimp only at H
       simp only [Option.some.injEq, Prod.mk.injEq] at H
       obtain ⟨rfl, rfl, rfl, rfl⟩ := H
       try go_wp2
       have n0_ := Aside0.mk (Kd.S_drew HO_199001.out)
       have n1_ := Aside0.mk (bD_ BK193.out)
       have n2_ := Aside0.mk (bD_ BK194.out)
       have n3_ := Aside0.mk (bD_ BK195.out)
       have n4_ := Aside0.mk (bD_ BK198.out)
       have n5_ := Aside0.mk (zD_ HB.out)
       clear HO_199001
       clear BK193
       clear BK194
       clear BK195
       clear BK198
       clear HB
       have HO_199001 := n0_
       have BK193 := n1_
       have BK194 := n2_
       have BK195 := n3_
       have BK198 := n4_
       have HB := n5_
       clear n0_ n1_ n2_ n3_ n4_ n5_
       refine start_ (n := 8) (S := fun w' => w'.cell? ⟨gb198, 0, none⟩ = some (.int .i64 (wrap64 (a0_0 + 1))) ∧ w'.cell? ⟨gb198, 1, none⟩ = some (u199001) ∧ w'.cell? ⟨gb193, 0, none⟩ = some (.int .i64 a0_0) ∧ w'.cell? ⟨gb193, 1, none⟩ = some (.slice A0_1 l0_1.length c0_1) ∧ w'.cell? ⟨gb194, 0, none⟩ = some (.slice A1_0 l1_0.length c1_0)) (ds := []) #[false, false, false, false, false, false, false, false] (by kernel_rfl) rfl rfl ⟨xC_ BK198.out 0, xC_ BK198.out 1, xC_ BK193.out 0, xC_ BK193.out 1, xC_ BK194.out 0⟩ (fun hHeld => ?_); refine with_tabW plan_Table_Next.tab14 plan_Table_Next.bits14 (fun HT_ HW_ => ?_)
       generalize wr.drew = w168 at HO_199001 BK193 BK194 BK195 BK198 HB hHeld ⊢
       refine take_ (i := 0) (N := some 69) (v := ?_) (a' := ?_) #[true, false, false, false, false, false, false, false] rfl rfl (take_ofW HT_.out HW_.out (by kernel_rfl)) (fun _ _ _ h => h) (Or.inl ⟨by rfl, ?_⟩) hHeld ?_ ?_
       rotate_left
       ·
        rintro w' ⟨s0, s1, s2, s3, s4⟩
        go_simp
        with_reducible rfl
       rotate_left
       ·
        simp only [Act.put, sA_, sZ_, sS_, i64_w, i32_w]
        rfl
       refine take_ (i := 1) (N := some 70) (v := ?_) (a' := ?_) #[true, true, false, false, false, false, false, false] rfl rfl (take_ofW HT_.out HW_.out (by kernel_rfl)) (fun _ _ _ h => h) (Or.inl ⟨by rfl, ?_⟩) hHeld ?_ ?_
       rotate_left
       ·
        rintro w' ⟨s0, s1, s2, s3, s4⟩
        go_simp
        with_reducible rfl
       rotate_left
       ·
        simp only [Act.put, sA_, sZ_, sS_, i64_w, i32_w]
        rfl
       refine take_ (i := 3) (N := some 72) (v := ?_) (a' := ?_) #[true, true, false, true, false, false, false, false] rfl rfl (take_ofW HT_.out HW_.out (by kernel_rfl)) (fun _ _ _ h => h) (Or.inl ⟨by rfl, ?_⟩) hHeld ?_ ?_
       rotate_left
       ·
        rintro w' ⟨s0, s1, s2, s3, s4⟩
        go_simp
        with_reducible rfl
       rotate_left
       ·
        simp only [Act.put, sA_, sZ_, sS_, i64_w, i32_w]
        rfl
       refine one_ (i := 2) (N := some 71) #[true, true, true, true, false, false, false, false] rfl rfl (one_of HT_.out (by kernel_rfl)) (by decide) (fun K hK => ?_)
       refine goes_ Tryz.func22 (by kernel_rfl) rfl #[.agg #[.int .i64 a0_0, .slice A0_1 l0_1.length c0_1]] (by rfl) rfl rfl T1_ ?_
       with_reducible refine (plan_Table_Config.calls k2 a0_0 _ _ l0_1 t199 _ ?side1 ?side2 A166.out).mono ?_
       (case side1 => exact C1_ ((Kd.C_below HR0_1.out HB.out)))
       (case side2 => exact HC0_1.out)
       rintro e w169 ⟨v200, rfl, ho0, hb⟩
       refine ⟨_, rfl, ?_⟩
       have n0_ := Aside0.mk (Kd.S_below (by (with_reducible repeat (first | apply Kd.S_alloc | apply Kd.S_drewN | apply Kd.S_drew)); exact HO_199001.out) hb)
       have n1_ := Aside0.mk (Kd.S_lower ho0 (below_size W2_))
       have n2_ := Aside0.mk (blk_below (B1_ BK193.out) hb)
       have n3_ := Aside0.mk (blk_below (B1_ BK194.out) hb)
       have n4_ := Aside0.mk (blk_below (B1_ BK195.out) hb)
       have n5_ := Aside0.mk (blk_below (B1_ BK198.out) hb)
       have n6_ := Aside0.mk (below_step W2_ hb)
       clear HO_199001
       clear BK193
       clear BK194
       clear BK195
       clear BK198
       clear HB
       have HO_199001 := n0_
       have HO201 := n1_
       have BK193 := n2_
       have BK194 := n3_
       have BK195 := n4_
       have BK198 := n5_
       have HB := n6_
       clear n0_ n1_ n2_ n3_ n4_ n5_ n6_
       (try clear hb)
       (try clear hb2)
       (try clear hk)
       (try clear hi)
       (try clear ho0)
       obtain ⟨Ao170, co170, eo170⟩ := Kd.S_slice HO201.out
       (first | subst eo170 | (injection eo170 with f1_ f2_ f3_; have f4_ := f1_.symm; have f5_ := f3_.symm; clear f1_ f2_ f3_; subst f4_; subst f5_))
       refine hK.out _ _ ⟨xC_ BK198.out 0, xC_ BK198.out 1, xC_ BK193.out 0, xC_ BK193.out 1, xC_ BK194.out 0⟩ (fun hHeld => ?_)
       clear hK K
       refine norm_ (a' := ?_) ?_ ?_
       rotate_left
       ·
        show Act.put _ (some 71) _ = _
        simp only [Act.put, sA_, sZ_, sS_, i64_w, i32_w]
        rfl
       refine one_ (i := 4) (N := some 73) #[true, true, true, true, true, false, false, false] rfl rfl (one_of HT_.out (by kernel_rfl)) (by decide) (fun K hK => ?_)
       refine goes_ Tryz.func34 (by kernel_rfl) rfl #[.agg #[.slice Ao170 t199.length co170], .agg #[.slice A1_0 l1_0.length c1_0]] (by rfl) rfl rfl T1_ ?_
       with_reducible refine (plan_diff.calls k2 _ _ t199 _ _ l1_0 t202 _ ?side1 ?side2 ?side3 ?side4 A167.out).mono ?_
       (case side1 => exact C1_ ((Kd.S_reads' HO201.out).2.2))
       (case side2 => exact (Kd.S_reads' HO201.out).2.1)
       (case side3 => exact C1_ ((Kd.C_below HR1_0.out HB.out)))
       (case side4 => exact HC1_0.out)
       rintro e w171 ⟨v203, rfl, ho0, hb⟩
       refine ⟨_, rfl, ?_⟩
       have n0_ := Aside0.mk (Kd.S_below (by (with_reducible repeat (first | apply Kd.S_alloc | apply Kd.S_drewN | apply Kd.S_drew)); exact HO_199001.out) hb)
       have n1_ := Aside0.mk (Kd.S_below (by (with_reducible repeat (first | apply Kd.S_alloc | apply Kd.S_drewN | apply Kd.S_drew)); exact HO201.out) hb)
       have n2_ := Aside0.mk (Kd.R_lower ho0 (below_size W2_))
       have n3_ := Aside0.mk (blk_below (B1_ BK193.out) hb)
       have n4_ := Aside0.mk (blk_below (B1_ BK194.out) hb)
       have n5_ := Aside0.mk (blk_below (B1_ BK195.out) hb)
       have n6_ := Aside0.mk (blk_below (B1_ BK198.out) hb)
       have n7_ := Aside0.mk (below_step W2_ hb)
       clear HO_199001
       clear HO201
       clear BK193
       clear BK194
       clear BK195
       clear BK198
       clear HB
       have HO_199001 := n0_
       have HO201 := n1_
       have HO204 := n2_
       have BK193 := n3_
       have BK194 := n4_
       have BK195 := n5_
       have BK198 := n6_
       have HB := n7_
       clear n0_ n1_ n2_ n3_ n4_ n5_ n6_ n7_
       (try clear hb)
       (try clear hb2)
       (try clear hk)
       (try clear hi)
       (try clear ho0)
       obtain ⟨Ao173, co173, eo173⟩ := Kd.S_slice HO_199001.out
       (first | subst eo173 | (injection eo173 with f1_ f2_ f3_; have f4_ := f1_.symm; have f5_ := f3_.symm; clear f1_ f2_ f3_; subst f4_; subst f5_))
       refine hK.out _ _ ⟨xC_ BK198.out 0, xC_ BK198.out 1, xC_ BK193.out 0, xC_ BK193.out 1, xC_ BK194.out 0⟩ (fun hHeld => ?_)
       clear hK K
       refine norm_ (a' := ?_) ?_ ?_
       rotate_left
       ·
        show Act.put _ (some 73) _ = _
        simp only [Act.put, sA_, sZ_, sS_, i64_w, i32_w]
        rfl
       refine one_ (i := 5) (N := none) #[true, true, true, true, true, true, false, false] rfl rfl (one_of HT_.out (by kernel_rfl)) (by decide) (fun K hK => ?_)
       have hs172 : w171.cell? ⟨gb195, 0, none⟩ = some (.int .i64 0) := xC_ BK195.out 0
       have hfs172 := blk_frozen BK195.out 0
       have hns172_0 := NB193_195.out
       have hns172_1 := NB194_195.out
       have hns172_3 := NB198_195.out
       have hms172_0 := NB195_193.out
       have hms172_1 := NB195_194.out
       have hms172_3 := NB195_198.out
       have hs174 : w171.cell? ⟨gb195, 1, none⟩ = some (.slice none 0 0) := xC_ BK195.out 1
       have hfs174 := blk_frozen BK195.out 1
       have hns174_0 := NB193_195.out
       have hns174_1 := NB194_195.out
       have hns174_3 := NB198_195.out
       have hms174_0 := NB195_193.out
       have hms174_1 := NB195_194.out
       have hms174_3 := NB195_198.out
       refine skip_ (w1 := ?_) (by rfl) rfl ?_ ?_
       rotate_left
       ·
        go_simp
        rfl
       refine hK.out _ _ ⟨((cell_far (p := ⟨gb195, _, none⟩) NB198_195.out _).trans (((cell_far (p := ⟨gb195, _, none⟩) NB198_195.out _).trans (hHeld.1)))), ((cell_far (p := ⟨gb195, _, none⟩) NB198_195.out _).trans (((cell_far (p := ⟨gb195, _, none⟩) NB198_195.out _).trans (hHeld.2.1)))), ((cell_far (p := ⟨gb195, _, none⟩) NB193_195.out _).trans (((cell_far (p := ⟨gb195, _, none⟩) NB193_195.out _).trans (hHeld.2.2.1)))), ((cell_far (p := ⟨gb195, _, none⟩) NB193_195.out _).trans (((cell_far (p := ⟨gb195, _, none⟩) NB193_195.out _).trans (hHeld.2.2.2.1)))), ((cell_far (p := ⟨gb195, _, none⟩) NB194_195.out _).trans (((cell_far (p := ⟨gb195, _, none⟩) NB194_195.out _).trans (hHeld.2.2.2.2))))⟩ (fun hHeld => ?_)
       clear hK K
       refine pure_ (i := 6) (N := some 5) (v := ?_) (a' := ?_) #[true, true, true, true, true, true, true, false] rfl rfl (any_of HT_.out (by kernel_rfl)) (fun _ _ _ h => h) (Or.inl ⟨by rfl, ?_⟩) ?_ ?_
       rotate_left
       ·
        intro w'
        go_simp
        with_reducible rfl
       rotate_left
       ·
        simp only [Act.put, sA_, sZ_, sS_, i64_w, i32_w]
        rfl
       refine pure_ (i := 7) (N := some 6) (v := ?_) (a' := ?_) #[true, true, true, true, true, true, true, true] rfl rfl (any_of HT_.out (by kernel_rfl)) (fun _ _ _ h => h) (Or.inl ⟨by rfl, ?_⟩) ?_ ?_
       rotate_left
       ·
        intro w'
        go_simp
        with_reducible rfl
       rotate_left
       ·
        simp only [Act.put, sA_, sZ_, sS_, i64_w, i32_w]
        rfl
       refine done_ (done_of HT_.out (by kernel_rfl)) ?_
       try go_wp2
       refine bodyPost_ret (results_ctt rfl _ _ gb195 44 #[.int .i64 (wrap64 (a0_0 + 1)), .slice Ao173 x199001_2.length co173] (0, 0) _ rfl (G1_ BK195.out) Tryz.underlying44 rfl (by kernel_rfl)) rfl ?_
       exact ⟨_, _, E1_, by (with_reducible repeat (first | apply Kd.S_alloc | apply Kd.S_drewN | apply Kd.S_drew)); exact Kd.S_mono (Kd.S_far (p := ⟨gb195, 1, none⟩) (Kd.S_far (p := ⟨gb195, 0, none⟩) (Kd.S_types HO_199001.out BK195.out (by decide)) (fun _ hk => hk.2) (.int .i64 (wrap64 (a0_0 + 1)))) (fun _ hk => hk.2) (.slice Ao173 x199001_2.length co173)) (fun _ hk => trivial), by refine R1_ ?_; exact Kd.R_mono (Kd.R_far (p := ⟨gb195, 1, none⟩) (Kd.R_far (p := ⟨gb195, 0, none⟩) (Kd.R_types HO204.out BK195.out (by decide)) (fun _ hk => hk.2) (.int .i64 (wrap64 (a0_0 + 1)))) (fun _ hk => hk.2) (.slice Ao173 x199001_2.length co173)) (fun _ hk => trivial), W2_⟩

/-! ### plan_First: function 30 -/
def plan_First.f  : Option (Int × (List (S59))) := some (0, ([] : List (S59)))
set_option maxHeartbeats 8000000 in
set_option maxRecDepth 100000 in
theorem plan_First.calls  (r1 : Int) (r2 : List (S59)) (w : World) (h : plan_First.f  = some (r1, r2)) :
  Calls Tryz.prog 30 #[] w fun e w' => ∃ v1_ : Value, e = .returned (.agg #[.int .i64 r1, v1_]) ∧ Kd.S k59 59 w' w.heap.size (fun _ => True) v1_ r2 ∧ Below w.heap.size w w' := by
 have hu44 := Tryz.underlying44
 have HB := Aside0.mk (Below.refl w.heap.size w)
 have H : (some (0, ([] : List (S59)))) = some (r1, r2) := h
 clear h
 simp only [Option.some.injEq, Prod.mk.injEq] at H
 obtain ⟨rfl, rfl⟩ := H
 go_enter Tryz.func30, Tryz.ntmps30
 go_wp2_with (first | ((with_reducible refine gate_dst (N := 0) rfl ?_); refine box_event ?hg (N := 0) ?hd (cs := #[.int .i64 0, .slice none 0 0]) (t := 44) ?hr ?_; (case hd | hg => rfl); (case hr => exact S1_); intro gb238 hg w1 hbox hb; have BK238 := Aside0.mk (hbox); have GW238 := Aside0.mk ((Z1_ : w.heap.size ≤ gb238)); have GE238 := Aside0.mk ((Z1_ : w.heap.size ≤ gb238)); replace HB := y1_ hb; clear hb hbox hg; obtain ⟨z2_0, z2_1, y2_0, y2_1⟩ := cz2_ BK238.out))
 refine bodyPost_ret (results_cell_row rfl _ _ gb238 44 #[.int .i64 0, .slice none 0 0] (0, 0) _ rfl (G1_ BK238.out) Tryz.underlying44 rfl (by kernel_rfl)) rfl ?_
 exact ⟨_, E1_, by first | exact Kd.S_nil _ _ _ _ _ | exact Kd.N_nil _ _ _ _ _ | exact Kd.V_nil _ _ _ _ _ | exact Kd.Q_nil _ _ _ _ _ | exact Kd.R_nil _ _ _ _ _, W2_⟩

/-! ### conf_reader_next: function 58, by hand -/
/-! ## The reader of words -/
/-- A word, and its line. -/
abbrev WD := ByteArray × Int
/-- What a reader holds (block g): the words that come (they lie in w0), its fault. -/
def RdI (w0 w : World) (g : Nat) (ws : List WD) (code line : Int) : Prop :=
 ∃ wb off n cap, n = ws.length ∧ w.heap[g]? = some (.cells #[.slice (some ⟨wb, off, none⟩) n cap, .int .i64 code, .int .i64 line] 95 (0, 0)) ∧ n ≤ cap ∧
  ∀ j (hj : j < ws.length), w0.cell? ⟨wb, off + j * 2, none⟩ = some (.string ws[j].1) ∧ w0.cell? ⟨wb, off + j * 2 + 1, none⟩ = some (.int .i64 ws[j].2)
theorem RdI.kept {w0 w w' : World} {g : Nat} {ws : List WD} {code line : Int} {S : Nat → Prop} (h : RdI w0 w g ws code line) (hk : Kept w w' S) (hg : ¬ S g) : RdI w0 w' g ws code line := by
 obtain ⟨wb, off, n, cap, hn, hh, hc, hr⟩ := h
 exact ⟨wb, off, n, cap, hn, blk_kept hh hk hg, hc, hr⟩
theorem Kept.refl_ (w : World) (S : Nat → Prop) : Kept w w S := ⟨Nat.le_refl _, fun _ _ _ => rfl⟩
theorem Kept.trans_ {w w1 w2 : World} {S : Nat → Prop} (h : Kept w w1 S) (h2 : Kept w1 w2 S) : Kept w w2 S := ⟨Nat.le_trans h.1 h2.1, fun i hi hs => (h2.2 i (Nat.lt_of_lt_of_le hi h.1) hs).trans (h.2 i hi hs)⟩
theorem Kept.mono_ {w w1 : World} {S S' : Nat → Prop} (h : Kept w w1 S) (hS : ∀ k, S k → S' k) : Kept w w1 S' := ⟨h.1, fun i hi hs => h.2 i hi (fun h' => hs (hS i h'))⟩
theorem Kept.set_ (w : World) (g j : Nat) (u : Value) : Kept w (w.setCell ⟨g, j, none⟩ u) (fun k => k = g) := ⟨by simp, fun i _ hs => Below.heap_setCell w ⟨g, j, none⟩ u i hs⟩
theorem Kept.below_ {w w1 : World} (S : Nat → Prop) (h : Below w.heap.size w w1) : Kept w w1 S := ⟨h.size, fun i hi _ => h.block i hi⟩
def emptyB : ByteArray := ⟨#[]⟩
def nextV (ws : List WD) (code : Int) : ByteArray := if code = 0 then (ws.headD (emptyB, 0)).1 else emptyB
set_option maxHeartbeats 1000000 in
set_option maxRecDepth 100000 in
theorem next_calls (w0 w : World) (g : Nat) (ws : List WD) (code line : Int) (hI : RdI w0 w g ws code line) (hB : Below w0.heap.size w0 w) (hne : ws ≠ []) :
  Calls Tryz.prog 58 #[.pointer (some ⟨g, 0, none⟩)] w fun e w' => e = .returned (.string (nextV ws code)) ∧ w = w' := by
 obtain ⟨wb, off, n, cap, hn, hh, hc, hr⟩ := hI
 have hn0 : 0 < ws.length := List.length_pos_iff.2 hne
 have hw := hr 0 hn0
 rw [Nat.zero_mul, Nat.add_zero] at hw
 have c0 := pw_cell_below hB hw.1
 have g0 := (blk_cell hh 0).trans rfl
 have g1 := (blk_cell hh 1).trans rfl
 have hhd : ws[0] = ws.headD (emptyB, 0) := by cases ws with | nil => exact absurd rfl hne | cons x r => rfl
 by_cases hcode : code = 0
 ·
  have HV := Aside0.mk (show nextV ws code = ws[0].1 from by unfold nextV; rw [if_pos hcode, hhd])
  obtain ⟨s, hs⟩ : ∃ s, s = ws[0].1 := ⟨_, rfl⟩
  rw [← hs] at c0 HV
  subst hcode
  have q1 : (0 < n) = True := eq_true (by omega)
  have q2 : ((0 : Int) < (n : Int)) = True := eq_true (by omega)
  clear hs hhd hr hw hn hc hn0 hne hh
  go_enter Tryz.func58, Tryz.ntmps58
  go_wp2
  go_ret
  exact ⟨by rw [HV.out]; rfl, rfl⟩
 ·
  have HV := Aside0.mk (show nextV ws code = emptyB from by unfold nextV; rw [if_neg hcode])
  have q1 : (code != 0) = true := bne_iff_ne.mpr hcode
  clear hhd hr hw hn hc hn0 hne hh hcode c0 g0
  go_enter Tryz.func58, Tryz.ntmps58
  go_wp2
  go_ret
  exact ⟨by rw [HV.out]; rfl, rfl⟩

/-! ### conf_reader_fail: function 59, by hand -/
-- over 58
def failC (code e : Int) : Int := if code = 0 then e else code
def failL (ws : List WD) (code line : Int) : Int := if code = 0 then (ws.headD (emptyB, 0)).2 else line
set_option maxHeartbeats 1000000 in
set_option maxRecDepth 100000 in
theorem fail_calls (w0 w : World) (g : Nat) (ws : List WD) (code line : Int) (er : Int) (hI : RdI w0 w g ws code line) (hB : Below w0.heap.size w0 w) (hg : w0.heap.size ≤ g) (hne : ws ≠ []) :
  Calls Tryz.prog 59 #[.pointer (some ⟨g, 0, none⟩), .int .i64 er] w fun e w' => e = .returned (.tuple #[]) ∧ RdI w0 w' g ws (failC code er) (failL ws code line) ∧ Kept w w' (fun k => k = g) ∧ Below w0.heap.size w0 w' := by
 obtain ⟨wb, off, n, cap, hn, hh, hc, hr⟩ := hI
 have hn0 : 0 < ws.length := List.length_pos_iff.2 hne
 have hw := hr 0 hn0
 rw [Nat.zero_mul, Nat.add_zero] at hw
 have c0 := pw_cell_below hB hw.2
 have g0 := (blk_cell hh 0).trans rfl
 have g1 := (blk_cell hh 1).trans rfl
 have g2 := (blk_cell hh 2).trans rfl
 have f1 := blk_frozen hh 1
 have f2 := blk_frozen hh 2
 have hhd : ws[0] = ws.headD (emptyB, 0) := by cases ws with | nil => exact absurd rfl hne | cons x r => rfl
 have HH := Aside0.mk hh
 have HR := Aside0.mk hr
 have HN := Aside0.mk hn
 by_cases hcode : code = 0
 ·
  have HC := Aside0.mk (show failC code er = er from by unfold failC; rw [if_pos hcode])
  have HV := Aside0.mk (show failL ws code line = ws[0].2 from by unfold failL; rw [if_pos hcode, hhd])
  obtain ⟨s, hs⟩ : ∃ s, s = ws[0].2 := ⟨_, rfl⟩
  rw [← hs] at c0 HV
  subst hcode
  have q1 : (0 < n) = True := eq_true (by omega)
  have q2 : ((0 : Int) < (n : Int)) = True := eq_true (by omega)
  clear hs hhd hr hw hn hn0 hne hh
  go_enter Tryz.func59, Tryz.ntmps59
  go_wp2
  go_end0
  refine ⟨rfl, ⟨wb, off, n, cap, HN.out, ?_, hc, HR.out⟩, Kept.trans_ (Kept.set_ w g 1 _) (Kept.set_ _ g 2 _), (hB.setCell hg _).setCell hg _⟩
  rw [HC.out, HV.out]
  exact blk_put (blk_put HH.out 1 _ rfl) 2 _ rfl
 ·
  have HC := Aside0.mk (show failC code er = code from by unfold failC; rw [if_neg hcode])
  have HV := Aside0.mk (show failL ws code line = line from by unfold failL; rw [if_neg hcode])
  have q1 : (code == 0) = false := beq_eq_false_iff_ne.mpr hcode
  clear hhd hr hw hn hn0 hne hh hcode c0 g0
  go_enter Tryz.func59, Tryz.ntmps59
  go_wp2
  go_end0
  exact ⟨rfl, ⟨wb, off, n, cap, HN.out, by rw [HC.out, HV.out]; exact HH.out, hc, HR.out⟩, Kept.refl_ _ _, hB⟩

/-! ### conf_reader_take: function 61, by hand -/
-- over 59
def takeW (ws : List WD) (code : Int) : List WD := if code = 0 then (match ws with | _ :: y :: r => y :: r | l => l) else ws
theorem takeW_ne {ws : List WD} (code : Int) (h : ws ≠ []) : takeW ws code ≠ [] := by
 unfold takeW
 split
 ·
  match ws, h with
  | [x], _ => simp
  | x :: y :: r, _ => simp
 ·
  exact h
set_option maxHeartbeats 1000000 in
set_option maxRecDepth 100000 in
theorem take_calls (w0 w : World) (g : Nat) (ws : List WD) (code line : Int) (hI : RdI w0 w g ws code line) (hB : Below w0.heap.size w0 w) (hg : w0.heap.size ≤ g) :
  Calls Tryz.prog 61 #[.pointer (some ⟨g, 0, none⟩)] w fun e w' => e = .returned (.tuple #[]) ∧ RdI w0 w' g (takeW ws code) code line ∧ Kept w w' (fun k => k = g) ∧ Below w0.heap.size w0 w' := by
 obtain ⟨wb, off, n, cap, hn, hh, hc, hr⟩ := hI
 have g0 := (blk_cell hh 0).trans rfl
 have g1 := (blk_cell hh 1).trans rfl
 have f0 := blk_frozen hh 0
 have HH := Aside0.mk hh
 have HR := Aside0.mk hr
 have HN := Aside0.mk hn
 by_cases hcode : code = 0
 ·
  subst hcode
  by_cases h1 : 1 < n
  ·
   obtain ⟨x, y, r, rfl⟩ : ∃ x y r, ws = x :: y :: r := by
    match ws, hn with
    | [], hn => simp at hn; omega
    | [x], hn => simp at hn; omega
    | x :: y :: r, _ => exact ⟨x, y, r, rfl⟩
   have HT := Aside0.mk (show takeW (x :: y :: r) 0 = y :: r from rfl)
   have q1 : ((1 : Int) < (n : Int)) = True := eq_true (by omega)
   have q2 : decide ((1 : Int) < (n : Int)) = true := decide_eq_true (by omega)
   have q3 : (1 < n) = True := eq_true h1
   have q7 : ((1 : Int) ≤ (n : Int)) = True := eq_true (by omega)
   have q4 : (1 ≤ n) = True := eq_true (by omega)
   have q5 : (1 ≤ cap) = True := eq_true (by omega)
   have q6 : (n ≤ cap) = True := eq_true hc
   have hcap : (1 = cap) = False := eq_false (by omega)
   have hcap2 : (cap = 1) = False := eq_false (by omega)
   have HCP := Aside0.mk hc
   have H1 := Aside0.mk h1
   clear hh hr hn hc h1
   go_enter Tryz.func61, Tryz.ntmps61
   go_wp2
   go_end0
   refine ⟨rfl, ⟨wb, off + 2, n - 1, cap - 1, ?_, ?_, ?_, ?_⟩, Kept.set_ w g 0 _, hB.setCell hg _⟩
   ·
    rw [HT.out]; have := HN.out; simp only [List.length_cons] at *; omega
   ·
    exact blk_put HH.out 0 _ rfl
   ·
    have := HCP.out; omega
   ·
    rw [HT.out]
    intro j hj
    have := HR.out (j + 1) (by simp only [List.length_cons] at *; omega)
    rw [show off + (j + 1) * 2 = off + 2 + j * 2 by omega] at this
    exact this
  ·
   have HT := Aside0.mk (show takeW ws 0 = ws from by
    unfold takeW
    rw [if_pos rfl]
    match ws, hn with
    | [], _ => rfl
    | [x], _ => rfl
    | x :: y :: r, hn => simp at hn; omega)
   have q1 : ((1 : Int) < (n : Int)) = False := eq_false (by omega)
   have q2 : decide ((1 : Int) < (n : Int)) = false := decide_eq_false (by omega)
   have q3 : (1 < n) = False := eq_false h1
   have HCP := Aside0.mk hc
   clear hh hr hn hc h1
   go_enter Tryz.func61, Tryz.ntmps61
   go_wp2
   go_end0
   exact ⟨rfl, by rw [HT.out]; exact ⟨wb, off, n, cap, HN.out, HH.out, HCP.out, HR.out⟩, Kept.refl_ _ _, hB⟩
 ·
  have HT := Aside0.mk (show takeW ws code = ws from by unfold takeW; rw [if_neg hcode])
  have q1 : (code == 0) = false := beq_eq_false_iff_ne.mpr hcode
  have HCP := Aside0.mk hc
  clear hh hr hn hc hcode g0
  go_enter Tryz.func61, Tryz.ntmps61
  go_wp2
  go_end0
  exact ⟨rfl, by rw [HT.out]; exact ⟨wb, off, n, cap, HN.out, HH.out, HCP.out, HR.out⟩, Kept.refl_ _ _, hB⟩

end Go.Proofs.YtlncpbnadlpihaaGreatDoor.PAll
