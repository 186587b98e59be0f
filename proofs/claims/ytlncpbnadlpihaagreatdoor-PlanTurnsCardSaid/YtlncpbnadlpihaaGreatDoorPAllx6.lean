import Derived.Test.YtlncpbnadlpihaaGreatDoorPAllx0
import Derived.Test.YtlncpbnadlpihaaGreatDoorPAllx5
namespace Go.Proofs.YtlncpbnadlpihaaGreatDoor.PAll
open Go.RowKit Go.Proofs.YtlncpbnadlpihaaGreatDoorW.PrintWords Go.Proofs.YtlncpbnadlpihaaGreatDoorW.PrintLast Go.Proofs.YtlncpbnadlpihaaGreatDoorW.PrintMore
attribute [local go_sem] max2_int min2_int max_two min_two max_three min_three max_four min_four   -- for this text's walks alone
set_option linter.unusedVariables false
set_option linter.unusedSimpArgs false

/-! ### plan_Table_Find: function 24 -/
def plan_Table_Find.l0 : Nat → ByteArray → List (S59) → Int → Int → Option (ByteArray × Int × Int × Int × Bool × Bool × List ByteArray × Int × Bool)
 | 0, _, _, _, _ => none
 | k + 1, x1, x9, x10, x11 => if x11 < x10 then (if 0 ≤ x11 then (if x11 < (x9.length : Int) then (if ((rd_T59 x9 x11).f0.f0).toList = x1.toList then ((slices_Clone_string_string.f ((rd_T59 x9 x11).f0.f6)).bind fun t152 => (some ((rd_T59 x9 x11).f0.f0, (rd_T59 x9 x11).f0.f1, (rd_T59 x9 x11).f0.f2, (rd_T59 x9 x11).f0.f3, (rd_T59 x9 x11).f0.f4, (rd_T59 x9 x11).f0.f5, t152, (rd_T59 x9 x11).f1, true))) else (plan_Table_Find.l0 k x1 x9 x10 (wrap64 (x11 + 1)))) else (none)) else (none)) else (some ((⟨#[]⟩ : ByteArray), 0, 0, 0, false, false, ([] : List ByteArray), 0, false))
def plan_Table_Find.f (k : Nat) (a0_0 : Int) (l0_1 : List (S59)) (a1 : ByteArray) : Option (ByteArray × Int × Int × Int × Bool × Bool × List ByteArray × Int × Bool) := plan_Table_Find.l0 k a1 l0_1 (l0_1.length : Int) 0
theorem plan_Table_Find.mono_l : ∀ k, (∀ y0 y1 y2 y3, LeO (plan_Table_Find.l0 k y0 y1 y2 y3) (plan_Table_Find.l0 (k + 1) y0 y1 y2 y3))
 | 0 => fun _ _ _ _ r h => by simp [plan_Table_Find.l0] at h
 | k + 1 => by
  have ih0 := plan_Table_Find.mono_l k
  ·
   intro y0 y1 y2 y3
   unfold plan_Table_Find.l0
   repeat' (with_reducible first | exact ih0 _ _ _ _ | exact lR_ | refine LeO.ite ?_ ?_ | refine LeO.bind ?_ (fun _ => ?_))
theorem plan_Table_Find.mono : ∀ a0 a1 a2 k, LeO (plan_Table_Find.f k a0 a1 a2) (plan_Table_Find.f (k + 1) a0 a1 a2) := by
 intro a0 a1 a2 k
 have ih0 := plan_Table_Find.mono_l k
 unfold plan_Table_Find.f
 repeat' (with_reducible first | exact ih0 _ _ _ _ | exact lR_ | refine LeO.ite ?_ ?_ | refine LeO.bind ?_ (fun _ => ?_))
set_option maxHeartbeats 8000000 in
set_option maxRecDepth 100000 in
theorem plan_Table_Find.calls (k : Nat) (a0_0 : Int) (A0_1 : Option Addr) (c0_1 : Nat) (l0_1 : List (S59)) (a1 : ByteArray) (r1 : ByteArray) (r2 : Int) (r3 : Int) (r4 : Int) (r5 : Bool) (r6 : Bool) (r7 : List ByteArray) (r8 : Int) (r9 : Bool) (w : World) (hr0_1 : Kd.C k59 w A0_1 l0_1.length l0_1) (hc0_1 : l0_1.length ≤ c0_1) (h : plan_Table_Find.f k a0_0 l0_1 a1 = some (r1, r2, r3, r4, r5, r6, r7, r8, r9)) :
  Calls Tryz.prog 24 #[.agg #[.int .i64 a0_0, .slice A0_1 l0_1.length c0_1], .string a1] w fun e w' => ∃ v6_ : Value, e = .returned (.tuple #[.agg #[.string r1, .int .i64 r2, .int .i64 r3, .int .i64 r4, .bool r5, .bool r6, v6_, .int .i64 r8], .bool r9]) ∧ Kd.R Kd.string 9 w' w.heap.size (fun _ => True) v6_ r7 ∧ Below w.heap.size w w' := by
 have hu44 := Tryz.underlying44
 have hu59 := Tryz.underlying59
 have HR0_1 := Aside0.mk hr0_1
 have HC0_1 := Aside0.mk hc0_1
 clear hr0_1 hc0_1
 have HB := Aside0.mk (Below.refl w.heap.size w)
 have H : (plan_Table_Find.l0 k a1 l0_1 (l0_1.length : Int) 0) = some (r1, r2, r3, r4, r5, r6, r7, r8, r9) := h
 clear h
 have H' := Aside0.mk H
 clear H
 go_enter Tryz.func24, Tryz.ntmps24
 go_wp2_with (first | ((with_reducible refine gate_dst (N := 2) rfl ?_); refine box_event ?hg (N := 2) ?hd (cs := #[.int .i64 a0_0, .slice A0_1 l0_1.length c0_1]) (t := 44) ?hr ?_; (case hd | hg => rfl); (case hr => exact S1_); intro gb148 hg w3 hbox hb; have BK148 := Aside0.mk (hbox); have GW148 := Aside0.mk ((Z1_ : w.heap.size ≤ gb148)); have GE148 := Aside0.mk ((Z1_ : w.heap.size ≤ gb148)); replace HB := y1_ hb; clear hb hbox hg) | ((with_reducible refine gate_dst (N := 4) rfl ?_); refine box_event ?hg (N := 4) ?hd (cs := #[.string (⟨#[]⟩ : ByteArray), .int .i64 0, .int .i64 0, .int .i64 0, .bool false, .bool false, .slice none 0 0, .int .i64 0]) (t := 59) ?hr ?_; (case hd | hg => rfl); (case hr => exact S1_); intro gb149 hg w4 hbox hb; have BK149 := Aside0.mk (hbox); have GW149 := Aside0.mk ((Z2_ : w.heap.size ≤ gb149)); have GE149 := Aside0.mk ((Z2_ : w.heap.size ≤ gb149)); have NB148_149 := Aside0.mk ((by rw [hg]; exact Nat.ne_of_lt (blk_lt (B1_ BK148.out)) : gb148 ≠ gb149)); have NB149_148 := Aside0.mk ((by rw [hg]; exact Nat.ne_of_gt (blk_lt (B1_ BK148.out)) : gb149 ≠ gb148)); replace BK148 := yB_ BK148 hb; replace HB := y2_ hb; clear hb hbox hg; have hnb5 := NB148_149.out; have hnc5 := NB149_148.out; obtain ⟨z6_0, z6_1, y6_0, y6_1⟩ := cz2_ BK148.out))
 go_loopg [11] k (fun kq v11 w' => ∃ (x11_1 : Int) (x150000_1 : ByteArray) (x150001_1 : Int) (x150002_1 : Int) (x150003_1 : Int) (x150004_1 : Bool) (x150005_1 : Bool) (x150007_1 : Int), v11 = .int .i64 x11_1 ∧ Aside0 (plan_Table_Find.l0 kq a1 l0_1 (l0_1.length : Int) x11_1 = some (r1, r2, r3, r4, r5, r6, r7, r8, r9)) ∧ Aside0 (kq ≤ k) ∧ Aside0 (w'.heap[gb148]? = some (.cells #[.int .i64 a0_0, (.slice A0_1 l0_1.length c0_1)] 44 (0, 0))) ∧ Aside0 (w'.heap[gb149]? = some (.cells #[.string x150000_1, .int .i64 x150001_1, .int .i64 x150002_1, .int .i64 x150003_1, .bool x150004_1, .bool x150005_1, (.slice none 0 0), .int .i64 x150007_1] 59 (0, 0))) ∧ Aside0 (Below w.heap.size w w'))
 case atStart => exact ⟨(0), ((⟨#[]⟩ : ByteArray)), (0), (0), (0), (false), (false), (0), E3_, H', ⟨Nat.le_refl _⟩, ⟨B1_ BK148.out⟩, ⟨B1_ BK149.out⟩, ⟨W2_⟩⟩
 case round =>
  clear H'
  (try clear z6_0 z6_1 y6_0 y6_1)
  obtain ⟨x11_1, x150000_1, x150001_1, x150002_1, x150003_1, x150004_1, x150005_1, x150007_1, rfl, HA, HK1, BK148, BK149, HB⟩ := hrel
  cases gk with
  | zero => exact absurd HA.out (by simp [plan_Table_Find.l0])
  | succ k1 =>
   have H := HA.out
   clear HA
   simp only [plan_Table_Find.l0] at H
   by_cases c7 : x11_1 < (l0_1.length : Int)
   ·
    rw [if_pos c7] at H
    have c7b0 : decide (x11_1 < (l0_1.length : Int)) = true := decide_eq_true c7
    clear c7
    by_cases c8 : 0 ≤ x11_1
    ·
     rw [if_pos c8] at H
     have c8b0 : decide (0 ≤ x11_1) = true := decide_eq_true c8
     clear c8
     by_cases c9 : x11_1 < (l0_1.length : Int)
     ·
      rw [if_pos c9] at H
      have c9b0 : decide (x11_1 < (l0_1.length : Int)) = true := decide_eq_true c9
      clear c9
      by_cases c10 : ((rd_T59 l0_1 x11_1).f0.f0).toList = a1.toList
      ·
       rw [if_pos c10] at H
       have c10b0 : (((rd_T59 l0_1 x11_1).f0.f0).toList == a1.toList) = true := beq_iff_eq.mpr c10
       have c10b1 : (((rd_T59 l0_1 x11_1).f0.f0).toList != a1.toList) = false := bne_eq_false_iff_eq.mpr c10
       clear c10
       obtain ⟨t152, A11, H⟩ := bS_ H
       try dsimp only at H
       simp only [Option.some.injEq, Prod.mk.injEq] at H
       obtain ⟨rfl, rfl, rfl, rfl, rfl, rfl, rfl, rfl, rfl⟩ := H
       have p150 : 0 ≤ (x11_1 : Int) := oA_
       have q150 : x11_1 < (l0_1.length : Int) := oA_
       obtain ⟨ad150, A150_6, c150_6, e150, hx150_0, hx150_1, hx150_2, hx150_3, hx150_4, hx150_5, hx150_6, hx150_7, hl150_6, hi150_6⟩ := at_T59 HR0_1.out x11_1 p150 q150
       cases e150
       replace hx150_0 := (HB.out.cell (World.block_lt_of_cell? w _ hx150_0)).trans hx150_0
       replace hx150_1 := (HB.out.cell (World.block_lt_of_cell? w _ hx150_1)).trans hx150_1
       replace hx150_2 := (HB.out.cell (World.block_lt_of_cell? w _ hx150_2)).trans hx150_2
       replace hx150_3 := (HB.out.cell (World.block_lt_of_cell? w _ hx150_3)).trans hx150_3
       replace hx150_4 := (HB.out.cell (World.block_lt_of_cell? w _ hx150_4)).trans hx150_4
       replace hx150_5 := (HB.out.cell (World.block_lt_of_cell? w _ hx150_5)).trans hx150_5
       replace hx150_6 := (HB.out.cell (World.block_lt_of_cell? w _ hx150_6)).trans hx150_6
       replace hx150_7 := (HB.out.cell (World.block_lt_of_cell? w _ hx150_7)).trans hx150_7
       have HR150_6 := Aside0.mk hi150_6
       have HC150_6 := Aside0.mk hl150_6
       clear hi150_6 hl150_6
       replace p150 := eq_true p150
       replace q150 := eq_true q150
       go_wp2_with (first | ((with_reducible refine gate_dst (N := 7) rfl ?_); refine box_event ?hg (N := 7) ?hd (cs := #[.string (⟨#[]⟩ : ByteArray), .int .i64 0, .int .i64 0, .int .i64 0, .bool false, .bool false, .slice none 0 0, .int .i64 0]) (t := 59) ?hr ?_; (case hd | hg => rfl); (case hr => exact S1_); intro gb151 hg w12 hbox hb; have BK151 := Aside0.mk (hbox); have GW151 := Aside0.mk ((Z2_ : w.heap.size ≤ gb151)); have GE151 := Aside0.mk ((Z2_ : w.heap.size ≤ gb151)); have NB148_151 := Aside0.mk ((by rw [hg]; exact Nat.ne_of_lt (blk_lt (B1_ BK148.out)) : gb148 ≠ gb151)); have NB151_148 := Aside0.mk ((by rw [hg]; exact Nat.ne_of_gt (blk_lt (B1_ BK148.out)) : gb151 ≠ gb148)); have NB149_151 := Aside0.mk ((by rw [hg]; exact Nat.ne_of_lt (blk_lt (B1_ BK149.out)) : gb149 ≠ gb151)); have NB151_149 := Aside0.mk ((by rw [hg]; exact Nat.ne_of_gt (blk_lt (B1_ BK149.out)) : gb151 ≠ gb149)); replace BK148 := yB_ BK148 hb; replace BK149 := yB_ BK149 hb; replace HB := y2_ hb; clear hb hbox hg; have hnb13 := NB151_148.out; have hnc13 := NB148_151.out; have hnb14 := NB151_149.out; have hnc14 := NB149_151.out; obtain ⟨z15_0, z15_1, z15_2, z15_3, z15_4, z15_5, z15_6, z15_7, y15_0, y15_1, y15_2, y15_3, y15_4, y15_5, y15_6, y15_7⟩ := cz8_ BK151.out) | ((with_reducible refine gate_callee (f := 40) rfl ?_); refine goesL_ (some 23) rfl rfl Tryz.func40 (by kernel_rfl) rfl #[.slice A150_6 ((rd_T59 l0_1 x11_1).f0.f6).length c150_6] rfl T1_ ?_; (with_reducible refine (slices_Clone_string_string.calls _ _ ((rd_T59 l0_1 x11_1).f0.f6) t152 _ ?side1 ?side2 A11.out).mono ?_); (case side1 => exact Kd.C_below HR150_6.out W2_); (case side2 => exact HC150_6.out); rintro e w16 ⟨v153, rfl, ho0, hb⟩; refine ⟨_, rfl, ?_⟩; have HO154 := Aside0.mk (Kd.R_lower ho0 (below_size W2_)); replace BK148 := Aside0.mk (blk_below (g := gb148) (o := .cells #[.int .i64 a0_0, .slice (some ad150) l0_1.length c0_1] 44 (0, 0)) (G1_ BK148.out) hb); replace BK149 := Aside0.mk (blk_below (g := gb149) (o := .cells #[.string x150000_1, .int .i64 x150001_1, .int .i64 x150002_1, .int .i64 x150003_1, .bool x150004_1, .bool x150005_1, .slice none 0 0, .int .i64 x150007_1] 59 (0, 0)) (G1_ BK149.out) hb); replace BK151 := Aside0.mk (blk_below (g := gb151) (o := .cells #[.string ((rd_T59 l0_1 x11_1).f0.f0), .int .i64 ((rd_T59 l0_1 x11_1).f0.f1), .int .i64 ((rd_T59 l0_1 x11_1).f0.f2), .int .i64 ((rd_T59 l0_1 x11_1).f0.f3), .bool ((rd_T59 l0_1 x11_1).f0.f4), .bool ((rd_T59 l0_1 x11_1).f0.f5), .slice A150_6 ((rd_T59 l0_1 x11_1).f0.f6).length c150_6, .int .i64 ((rd_T59 l0_1 x11_1).f1)] 59 (0, 0)) (G1_ BK151.out) hb); replace HB := y2_ hb; (try clear hb); (try clear ho0); obtain ⟨Ao17, co17, eo17⟩ := Kd.R_slice HO154.out; subst eo17; obtain ⟨z18_0, z18_1, z18_2, z18_3, z18_4, z18_5, z18_6, z18_7, y18_0, y18_1, y18_2, y18_3, y18_4, y18_5, y18_6, y18_7⟩ := cz8_ BK151.out; have hnb19 := NB149_148.out; have hnc19 := NB148_149.out; obtain ⟨z20_0, z20_1, z20_2, z20_3, z20_4, z20_5, z20_6, z20_7, y20_0, y20_1, y20_2, y20_3, y20_4, y20_5, y20_6, y20_7⟩ := cz8_ BK149.out))
       refine bodyPost_ret (results_ct rfl _ _ gb149 59 #[.string ((rd_T59 l0_1 x11_1).f0.f0), .int .i64 ((rd_T59 l0_1 x11_1).f0.f1), .int .i64 ((rd_T59 l0_1 x11_1).f0.f2), .int .i64 ((rd_T59 l0_1 x11_1).f0.f3), .bool ((rd_T59 l0_1 x11_1).f0.f4), .bool ((rd_T59 l0_1 x11_1).f0.f5), .slice Ao17 t152.length co17, .int .i64 ((rd_T59 l0_1 x11_1).f1)] (0, 0) _ rfl (G1_ BK149.out) Tryz.underlying59 rfl (by kernel_rfl)) rfl ?_
       exact ⟨_, E1_, by refine R1_ ?_; exact Kd.R_mono (Kd.R_far (p := ⟨gb149, 7, none⟩) (Kd.R_far (p := ⟨gb149, 6, none⟩) (Kd.R_far (p := ⟨gb149, 5, none⟩) (Kd.R_far (p := ⟨gb149, 4, none⟩) (Kd.R_far (p := ⟨gb149, 3, none⟩) (Kd.R_far (p := ⟨gb149, 2, none⟩) (Kd.R_far (p := ⟨gb149, 1, none⟩) (Kd.R_far (p := ⟨gb149, 0, none⟩) (Kd.R_far (p := ⟨gb151, 6, none⟩) (Kd.R_types (Kd.R_types HO154.out BK151.out (by decide)) BK149.out (by decide)) (fun _ hk => hk.1.2) (.slice Ao17 t152.length co17)) (fun _ hk => hk.2) (.string ((rd_T59 l0_1 x11_1).f0.f0))) (fun _ hk => hk.2) (.int .i64 ((rd_T59 l0_1 x11_1).f0.f1))) (fun _ hk => hk.2) (.int .i64 ((rd_T59 l0_1 x11_1).f0.f2))) (fun _ hk => hk.2) (.int .i64 ((rd_T59 l0_1 x11_1).f0.f3))) (fun _ hk => hk.2) (.bool ((rd_T59 l0_1 x11_1).f0.f4))) (fun _ hk => hk.2) (.bool ((rd_T59 l0_1 x11_1).f0.f5))) (fun _ hk => hk.2) (.slice Ao17 t152.length co17)) (fun _ hk => hk.2) (.int .i64 ((rd_T59 l0_1 x11_1).f1))) (fun _ hk => trivial), W2_⟩
      ·
       rw [if_neg c10] at H
       have c10b0 : (((rd_T59 l0_1 x11_1).f0.f0).toList == a1.toList) = false := beq_eq_false_iff_ne.mpr c10
       have c10b1 : (((rd_T59 l0_1 x11_1).f0.f0).toList != a1.toList) = true := bne_iff_ne.mpr c10
       have H' := Aside0.mk H
       clear H
       have p150 : 0 ≤ (x11_1 : Int) := oA_
       have q150 : x11_1 < (l0_1.length : Int) := oA_
       obtain ⟨ad150, A150_6, c150_6, e150, hx150_0, hx150_1, hx150_2, hx150_3, hx150_4, hx150_5, hx150_6, hx150_7, hl150_6, hi150_6⟩ := at_T59 HR0_1.out x11_1 p150 q150
       cases e150
       replace hx150_0 := (HB.out.cell (World.block_lt_of_cell? w _ hx150_0)).trans hx150_0
       replace hx150_1 := (HB.out.cell (World.block_lt_of_cell? w _ hx150_1)).trans hx150_1
       replace hx150_2 := (HB.out.cell (World.block_lt_of_cell? w _ hx150_2)).trans hx150_2
       replace hx150_3 := (HB.out.cell (World.block_lt_of_cell? w _ hx150_3)).trans hx150_3
       replace hx150_4 := (HB.out.cell (World.block_lt_of_cell? w _ hx150_4)).trans hx150_4
       replace hx150_5 := (HB.out.cell (World.block_lt_of_cell? w _ hx150_5)).trans hx150_5
       replace hx150_6 := (HB.out.cell (World.block_lt_of_cell? w _ hx150_6)).trans hx150_6
       replace hx150_7 := (HB.out.cell (World.block_lt_of_cell? w _ hx150_7)).trans hx150_7
       have HR150_6 := Aside0.mk hi150_6
       have HC150_6 := Aside0.mk hl150_6
       clear hi150_6 hl150_6
       replace p150 := eq_true p150
       replace q150 := eq_true q150
       go_wp2_with (first | ((with_reducible refine gate_dst (N := 7) rfl ?_); refine box_event ?hg (N := 7) ?hd (cs := #[.string (⟨#[]⟩ : ByteArray), .int .i64 0, .int .i64 0, .int .i64 0, .bool false, .bool false, .slice none 0 0, .int .i64 0]) (t := 59) ?hr ?_; (case hd | hg => rfl); (case hr => exact S1_); intro gb151 hg w21 hbox hb; have BK151 := Aside0.mk (hbox); have GW151 := Aside0.mk ((Z2_ : w.heap.size ≤ gb151)); have GE151 := Aside0.mk ((Z2_ : w.heap.size ≤ gb151)); have NB148_151 := Aside0.mk ((by rw [hg]; exact Nat.ne_of_lt (blk_lt (B1_ BK148.out)) : gb148 ≠ gb151)); have NB151_148 := Aside0.mk ((by rw [hg]; exact Nat.ne_of_gt (blk_lt (B1_ BK148.out)) : gb151 ≠ gb148)); have NB149_151 := Aside0.mk ((by rw [hg]; exact Nat.ne_of_lt (blk_lt (B1_ BK149.out)) : gb149 ≠ gb151)); have NB151_149 := Aside0.mk ((by rw [hg]; exact Nat.ne_of_gt (blk_lt (B1_ BK149.out)) : gb151 ≠ gb149)); replace BK148 := yB_ BK148 hb; replace BK149 := yB_ BK149 hb; replace HB := y2_ hb; clear hb hbox hg; have hnb22 := NB151_148.out; have hnc22 := NB148_151.out; have hnb23 := NB151_149.out; have hnc23 := NB149_151.out; obtain ⟨z24_0, z24_1, z24_2, z24_3, z24_4, z24_5, z24_6, z24_7, y24_0, y24_1, y24_2, y24_3, y24_4, y24_5, y24_6, y24_7⟩ := cz8_ BK151.out))
       go_roundg k1
       case measure => have := HK1.out; omega
       case rel => exact ⟨(wrap64 (x11_1 + 1)), (x150000_1), (x150001_1), (x150002_1), (x150003_1), (x150004_1), (x150005_1), (x150007_1), E3_, H', ⟨by have := HK1.out; omega⟩, ⟨G1_ BK148.out⟩, ⟨G1_ BK149.out⟩, ⟨W2_⟩⟩
     ·
      rw [if_neg c9] at H
      exact absurd H (by simp)
    ·
     rw [if_neg c8] at H
     exact absurd H (by simp)
   ·
    rw [if_neg c7] at H
    have c7b0 : decide (x11_1 < (l0_1.length : Int)) = false := decide_eq_false c7
    clear c7
    simp only [Option.some.injEq, Prod.mk.injEq] at H
    obtain ⟨rfl, rfl, rfl, rfl, rfl, rfl, rfl, rfl, rfl⟩ := H
    have hnb25 := NB149_148.out
    have hnc25 := NB148_149.out
    obtain ⟨z26_0, z26_1, z26_2, z26_3, z26_4, z26_5, z26_6, z26_7, y26_0, y26_1, y26_2, y26_3, y26_4, y26_5, y26_6, y26_7⟩ := cz8_ BK149.out
    go_wp2
    refine bodyPost_ret (results_ct rfl _ _ gb149 59 #[.string (⟨#[]⟩ : ByteArray), .int .i64 0, .int .i64 0, .int .i64 0, .bool false, .bool false, .slice none 0 0, .int .i64 0] (0, 0) _ rfl (G1_ BK149.out) Tryz.underlying59 rfl (by kernel_rfl)) rfl ?_
    exact ⟨_, E1_, by first | exact Kd.R_nil _ _ _ _ _ | exact Kd.N_nil _ _ _ _ _ | exact Kd.V_nil _ _ _ _ _ | exact Kd.Q_nil _ _ _ _ _ | exact Kd.S_nil _ _ _ _ _, W2_⟩

/-! ### conf_Config_Find: function 31 -/
def conf_Config_Find.l0 : Nat → ByteArray → List (S57) → Int → Int → Option (ByteArray × Int × Int × Int × Bool × Bool × List ByteArray × Bool)
 | 0, _, _, _, _ => none
 | k + 1, x1, x9, x10, x11 => if x11 < x10 then (if 0 ≤ x11 then (if x11 < (x9.length : Int) then (if ((rd_T57 x9 x11).f0).toList = x1.toList then ((slices_Clone_string_string.f ((rd_T57 x9 x11).f6)).bind fun t159 => (some ((rd_T57 x9 x11).f0, (rd_T57 x9 x11).f1, (rd_T57 x9 x11).f2, (rd_T57 x9 x11).f3, (rd_T57 x9 x11).f4, (rd_T57 x9 x11).f5, t159, true))) else (conf_Config_Find.l0 k x1 x9 x10 (wrap64 (x11 + 1)))) else (none)) else (none)) else (some ((⟨#[]⟩ : ByteArray), 0, 0, 0, false, false, ([] : List ByteArray), false))
def conf_Config_Find.f (k : Nat) (l0_0 : List (S57)) (a1 : ByteArray) : Option (ByteArray × Int × Int × Int × Bool × Bool × List ByteArray × Bool) := conf_Config_Find.l0 k a1 l0_0 (l0_0.length : Int) 0
theorem conf_Config_Find.mono_l : ∀ k, (∀ y0 y1 y2 y3, LeO (conf_Config_Find.l0 k y0 y1 y2 y3) (conf_Config_Find.l0 (k + 1) y0 y1 y2 y3))
 | 0 => fun _ _ _ _ r h => by simp [conf_Config_Find.l0] at h
 | k + 1 => by
  have ih0 := conf_Config_Find.mono_l k
  ·
   intro y0 y1 y2 y3
   unfold conf_Config_Find.l0
   repeat' (with_reducible first | exact ih0 _ _ _ _ | exact lR_ | refine LeO.ite ?_ ?_ | refine LeO.bind ?_ (fun _ => ?_))
theorem conf_Config_Find.mono : ∀ a0 a1 k, LeO (conf_Config_Find.f k a0 a1) (conf_Config_Find.f (k + 1) a0 a1) := by
 intro a0 a1 k
 have ih0 := conf_Config_Find.mono_l k
 unfold conf_Config_Find.f
 repeat' (with_reducible first | exact ih0 _ _ _ _ | exact lR_ | refine LeO.ite ?_ ?_ | refine LeO.bind ?_ (fun _ => ?_))
set_option maxHeartbeats 8000000 in
set_option maxRecDepth 100000 in
theorem conf_Config_Find.calls (k : Nat) (A0_0 : Option Addr) (c0_0 : Nat) (l0_0 : List (S57)) (a1 : ByteArray) (r1 : ByteArray) (r2 : Int) (r3 : Int) (r4 : Int) (r5 : Bool) (r6 : Bool) (r7 : List ByteArray) (r8 : Bool) (w : World) (hr0_0 : Kd.C k57 w A0_0 l0_0.length l0_0) (hc0_0 : l0_0.length ≤ c0_0) (h : conf_Config_Find.f k l0_0 a1 = some (r1, r2, r3, r4, r5, r6, r7, r8)) :
  Calls Tryz.prog 31 #[.agg #[.slice A0_0 l0_0.length c0_0], .string a1] w fun e w' => ∃ v6_ : Value, e = .returned (.tuple #[.agg #[.string r1, .int .i64 r2, .int .i64 r3, .int .i64 r4, .bool r5, .bool r6, v6_], .bool r8]) ∧ Kd.R Kd.string 9 w' w.heap.size (fun _ => True) v6_ r7 ∧ Below w.heap.size w w' := by
 have hu24 := Tryz.underlying24
 have hu57 := Tryz.underlying57
 have HR0_0 := Aside0.mk hr0_0
 have HC0_0 := Aside0.mk hc0_0
 clear hr0_0 hc0_0
 have HB := Aside0.mk (Below.refl w.heap.size w)
 have H : (conf_Config_Find.l0 k a1 l0_0 (l0_0.length : Int) 0) = some (r1, r2, r3, r4, r5, r6, r7, r8) := h
 clear h
 have H' := Aside0.mk H
 clear H
 go_enter Tryz.func31, Tryz.ntmps31
 go_wp2_with (first | ((with_reducible refine gate_dst (N := 2) rfl ?_); refine box_event ?hg (N := 2) ?hd (cs := #[.slice A0_0 l0_0.length c0_0]) (t := 24) ?hr ?_; (case hd | hg => rfl); (case hr => exact S1_); intro gb155 hg w3 hbox hb; have BK155 := Aside0.mk (hbox); have GW155 := Aside0.mk ((Z1_ : w.heap.size ≤ gb155)); have GE155 := Aside0.mk ((Z1_ : w.heap.size ≤ gb155)); replace HB := y1_ hb; clear hb hbox hg) | ((with_reducible refine gate_dst (N := 4) rfl ?_); refine box_event ?hg (N := 4) ?hd (cs := #[.string (⟨#[]⟩ : ByteArray), .int .i64 0, .int .i64 0, .int .i64 0, .bool false, .bool false, .slice none 0 0]) (t := 57) ?hr ?_; (case hd | hg => rfl); (case hr => exact S1_); intro gb156 hg w4 hbox hb; have BK156 := Aside0.mk (hbox); have GW156 := Aside0.mk ((Z2_ : w.heap.size ≤ gb156)); have GE156 := Aside0.mk ((Z2_ : w.heap.size ≤ gb156)); have NB155_156 := Aside0.mk ((by rw [hg]; exact Nat.ne_of_lt (blk_lt (B1_ BK155.out)) : gb155 ≠ gb156)); have NB156_155 := Aside0.mk ((by rw [hg]; exact Nat.ne_of_gt (blk_lt (B1_ BK155.out)) : gb156 ≠ gb155)); replace BK155 := yB_ BK155 hb; replace HB := y2_ hb; clear hb hbox hg; have hnb5 := NB155_156.out; have hnc5 := NB156_155.out; obtain ⟨z6_0, y6_0⟩ := cz1_ BK155.out))
 go_loopg [11] k (fun kq v11 w' => ∃ (x11_1 : Int) (x157000_1 : ByteArray) (x157001_1 : Int) (x157002_1 : Int) (x157003_1 : Int) (x157004_1 : Bool) (x157005_1 : Bool), v11 = .int .i64 x11_1 ∧ Aside0 (conf_Config_Find.l0 kq a1 l0_0 (l0_0.length : Int) x11_1 = some (r1, r2, r3, r4, r5, r6, r7, r8)) ∧ Aside0 (kq ≤ k) ∧ Aside0 (w'.heap[gb155]? = some (.cells #[(.slice A0_0 l0_0.length c0_0)] 24 (0, 0))) ∧ Aside0 (w'.heap[gb156]? = some (.cells #[.string x157000_1, .int .i64 x157001_1, .int .i64 x157002_1, .int .i64 x157003_1, .bool x157004_1, .bool x157005_1, (.slice none 0 0)] 57 (0, 0))) ∧ Aside0 (Below w.heap.size w w'))
 case atStart => exact ⟨(0), ((⟨#[]⟩ : ByteArray)), (0), (0), (0), (false), (false), E3_, H', ⟨Nat.le_refl _⟩, ⟨B1_ BK155.out⟩, ⟨B1_ BK156.out⟩, ⟨W2_⟩⟩
 case round =>
  clear H'
  (try clear z6_0 y6_0)
  obtain ⟨x11_1, x157000_1, x157001_1, x157002_1, x157003_1, x157004_1, x157005_1, rfl, HA, HK1, BK155, BK156, HB⟩ := hrel
  cases gk with
  | zero => exact absurd HA.out (by simp [conf_Config_Find.l0])
  | succ k1 =>
   have H := HA.out
   clear HA
   simp only [conf_Config_Find.l0] at H
   by_cases c7 : x11_1 < (l0_0.length : Int)
   ·
    rw [if_pos c7] at H
    have c7b0 : decide (x11_1 < (l0_0.length : Int)) = true := decide_eq_true c7
    clear c7
    by_cases c8 : 0 ≤ x11_1
    ·
     rw [if_pos c8] at H
     have c8b0 : decide (0 ≤ x11_1) = true := decide_eq_true c8
     clear c8
     by_cases c9 : x11_1 < (l0_0.length : Int)
     ·
      rw [if_pos c9] at H
      have c9b0 : decide (x11_1 < (l0_0.length : Int)) = true := decide_eq_true c9
      clear c9
      by_cases c10 : ((rd_T57 l0_0 x11_1).f0).toList = a1.toList
      ·
       rw [if_pos c10] at H
       have c10b0 : (((rd_T57 l0_0 x11_1).f0).toList == a1.toList) = true := beq_iff_eq.mpr c10
       have c10b1 : (((rd_T57 l0_0 x11_1).f0).toList != a1.toList) = false := bne_eq_false_iff_eq.mpr c10
       clear c10
       obtain ⟨t159, A11, H⟩ := bS_ H
       try dsimp only at H
       simp only [Option.some.injEq, Prod.mk.injEq] at H
       obtain ⟨rfl, rfl, rfl, rfl, rfl, rfl, rfl, rfl⟩ := H
       have p157 : 0 ≤ (x11_1 : Int) := oA_
       have q157 : x11_1 < (l0_0.length : Int) := oA_
       obtain ⟨ad157, A157_6, c157_6, e157, hx157_0, hx157_1, hx157_2, hx157_3, hx157_4, hx157_5, hx157_6, hl157_6, hi157_6⟩ := at_T57 HR0_0.out x11_1 p157 q157
       cases e157
       replace hx157_0 := (HB.out.cell (World.block_lt_of_cell? w _ hx157_0)).trans hx157_0
       replace hx157_1 := (HB.out.cell (World.block_lt_of_cell? w _ hx157_1)).trans hx157_1
       replace hx157_2 := (HB.out.cell (World.block_lt_of_cell? w _ hx157_2)).trans hx157_2
       replace hx157_3 := (HB.out.cell (World.block_lt_of_cell? w _ hx157_3)).trans hx157_3
       replace hx157_4 := (HB.out.cell (World.block_lt_of_cell? w _ hx157_4)).trans hx157_4
       replace hx157_5 := (HB.out.cell (World.block_lt_of_cell? w _ hx157_5)).trans hx157_5
       replace hx157_6 := (HB.out.cell (World.block_lt_of_cell? w _ hx157_6)).trans hx157_6
       have HR157_6 := Aside0.mk hi157_6
       have HC157_6 := Aside0.mk hl157_6
       clear hi157_6 hl157_6
       replace p157 := eq_true p157
       replace q157 := eq_true q157
       go_wp2_with (first | ((with_reducible refine gate_dst (N := 7) rfl ?_); refine box_event ?hg (N := 7) ?hd (cs := #[.string (⟨#[]⟩ : ByteArray), .int .i64 0, .int .i64 0, .int .i64 0, .bool false, .bool false, .slice none 0 0]) (t := 57) ?hr ?_; (case hd | hg => rfl); (case hr => exact S1_); intro gb158 hg w12 hbox hb; have BK158 := Aside0.mk (hbox); have GW158 := Aside0.mk ((Z2_ : w.heap.size ≤ gb158)); have GE158 := Aside0.mk ((Z2_ : w.heap.size ≤ gb158)); have NB155_158 := Aside0.mk ((by rw [hg]; exact Nat.ne_of_lt (blk_lt (B1_ BK155.out)) : gb155 ≠ gb158)); have NB158_155 := Aside0.mk ((by rw [hg]; exact Nat.ne_of_gt (blk_lt (B1_ BK155.out)) : gb158 ≠ gb155)); have NB156_158 := Aside0.mk ((by rw [hg]; exact Nat.ne_of_lt (blk_lt (B1_ BK156.out)) : gb156 ≠ gb158)); have NB158_156 := Aside0.mk ((by rw [hg]; exact Nat.ne_of_gt (blk_lt (B1_ BK156.out)) : gb158 ≠ gb156)); replace BK155 := yB_ BK155 hb; replace BK156 := yB_ BK156 hb; replace HB := y2_ hb; clear hb hbox hg; have hnb13 := NB158_155.out; have hnc13 := NB155_158.out; have hnb14 := NB158_156.out; have hnc14 := NB156_158.out; obtain ⟨z15_0, z15_1, z15_2, z15_3, z15_4, z15_5, z15_6, y15_0, y15_1, y15_2, y15_3, y15_4, y15_5, y15_6⟩ := cz7_ BK158.out) | ((with_reducible refine gate_callee (f := 40) rfl ?_); refine goesL_ (some 21) rfl rfl Tryz.func40 (by kernel_rfl) rfl #[.slice A157_6 ((rd_T57 l0_0 x11_1).f6).length c157_6] rfl T1_ ?_; (with_reducible refine (slices_Clone_string_string.calls _ _ ((rd_T57 l0_0 x11_1).f6) t159 _ ?side1 ?side2 A11.out).mono ?_); (case side1 => exact Kd.C_below HR157_6.out W2_); (case side2 => exact HC157_6.out); rintro e w16 ⟨v160, rfl, ho0, hb⟩; refine ⟨_, rfl, ?_⟩; have HO161 := Aside0.mk (Kd.R_lower ho0 (below_size W2_)); replace BK155 := Aside0.mk (blk_below (g := gb155) (o := .cells #[.slice (some ad157) l0_0.length c0_0] 24 (0, 0)) (G1_ BK155.out) hb); replace BK156 := Aside0.mk (blk_below (g := gb156) (o := .cells #[.string x157000_1, .int .i64 x157001_1, .int .i64 x157002_1, .int .i64 x157003_1, .bool x157004_1, .bool x157005_1, .slice none 0 0] 57 (0, 0)) (G1_ BK156.out) hb); replace BK158 := Aside0.mk (blk_below (g := gb158) (o := .cells #[.string ((rd_T57 l0_0 x11_1).f0), .int .i64 ((rd_T57 l0_0 x11_1).f1), .int .i64 ((rd_T57 l0_0 x11_1).f2), .int .i64 ((rd_T57 l0_0 x11_1).f3), .bool ((rd_T57 l0_0 x11_1).f4), .bool ((rd_T57 l0_0 x11_1).f5), .slice A157_6 ((rd_T57 l0_0 x11_1).f6).length c157_6] 57 (0, 0)) (G1_ BK158.out) hb); replace HB := y2_ hb; (try clear hb); (try clear ho0); obtain ⟨Ao17, co17, eo17⟩ := Kd.R_slice HO161.out; subst eo17; obtain ⟨z18_0, z18_1, z18_2, z18_3, z18_4, z18_5, z18_6, y18_0, y18_1, y18_2, y18_3, y18_4, y18_5, y18_6⟩ := cz7_ BK158.out; have hnb19 := NB156_155.out; have hnc19 := NB155_156.out; obtain ⟨z20_0, z20_1, z20_2, z20_3, z20_4, z20_5, z20_6, y20_0, y20_1, y20_2, y20_3, y20_4, y20_5, y20_6⟩ := cz7_ BK156.out))
       refine bodyPost_ret (results_ct rfl _ _ gb156 57 #[.string ((rd_T57 l0_0 x11_1).f0), .int .i64 ((rd_T57 l0_0 x11_1).f1), .int .i64 ((rd_T57 l0_0 x11_1).f2), .int .i64 ((rd_T57 l0_0 x11_1).f3), .bool ((rd_T57 l0_0 x11_1).f4), .bool ((rd_T57 l0_0 x11_1).f5), .slice Ao17 t159.length co17] (0, 0) _ rfl (G1_ BK156.out) Tryz.underlying57 rfl (by kernel_rfl)) rfl ?_
       exact ⟨_, E1_, by refine R1_ ?_; exact Kd.R_mono (Kd.R_far (p := ⟨gb156, 6, none⟩) (Kd.R_far (p := ⟨gb156, 5, none⟩) (Kd.R_far (p := ⟨gb156, 4, none⟩) (Kd.R_far (p := ⟨gb156, 3, none⟩) (Kd.R_far (p := ⟨gb156, 2, none⟩) (Kd.R_far (p := ⟨gb156, 1, none⟩) (Kd.R_far (p := ⟨gb156, 0, none⟩) (Kd.R_far (p := ⟨gb158, 6, none⟩) (Kd.R_types (Kd.R_types HO161.out BK158.out (by decide)) BK156.out (by decide)) (fun _ hk => hk.1.2) (.slice Ao17 t159.length co17)) (fun _ hk => hk.2) (.string ((rd_T57 l0_0 x11_1).f0))) (fun _ hk => hk.2) (.int .i64 ((rd_T57 l0_0 x11_1).f1))) (fun _ hk => hk.2) (.int .i64 ((rd_T57 l0_0 x11_1).f2))) (fun _ hk => hk.2) (.int .i64 ((rd_T57 l0_0 x11_1).f3))) (fun _ hk => hk.2) (.bool ((rd_T57 l0_0 x11_1).f4))) (fun _ hk => hk.2) (.bool ((rd_T57 l0_0 x11_1).f5))) (fun _ hk => hk.2) (.slice Ao17 t159.length co17)) (fun _ hk => trivial), W2_⟩
      ·
       rw [if_neg c10] at H
       have c10b0 : (((rd_T57 l0_0 x11_1).f0).toList == a1.toList) = false := beq_eq_false_iff_ne.mpr c10
       have c10b1 : (((rd_T57 l0_0 x11_1).f0).toList != a1.toList) = true := bne_iff_ne.mpr c10
       have H' := Aside0.mk H
       clear H
       have p157 : 0 ≤ (x11_1 : Int) := oA_
       have q157 : x11_1 < (l0_0.length : Int) := oA_
       obtain ⟨ad157, A157_6, c157_6, e157, hx157_0, hx157_1, hx157_2, hx157_3, hx157_4, hx157_5, hx157_6, hl157_6, hi157_6⟩ := at_T57 HR0_0.out x11_1 p157 q157
       cases e157
       replace hx157_0 := (HB.out.cell (World.block_lt_of_cell? w _ hx157_0)).trans hx157_0
       replace hx157_1 := (HB.out.cell (World.block_lt_of_cell? w _ hx157_1)).trans hx157_1
       replace hx157_2 := (HB.out.cell (World.block_lt_of_cell? w _ hx157_2)).trans hx157_2
       replace hx157_3 := (HB.out.cell (World.block_lt_of_cell? w _ hx157_3)).trans hx157_3
       replace hx157_4 := (HB.out.cell (World.block_lt_of_cell? w _ hx157_4)).trans hx157_4
       replace hx157_5 := (HB.out.cell (World.block_lt_of_cell? w _ hx157_5)).trans hx157_5
       replace hx157_6 := (HB.out.cell (World.block_lt_of_cell? w _ hx157_6)).trans hx157_6
       have HR157_6 := Aside0.mk hi157_6
       have HC157_6 := Aside0.mk hl157_6
       clear hi157_6 hl157_6
       replace p157 := eq_true p157
       replace q157 := eq_true q157
       go_wp2_with (first | ((with_reducible refine gate_dst (N := 7) rfl ?_); refine box_event ?hg (N := 7) ?hd (cs := #[.string (⟨#[]⟩ : ByteArray), .int .i64 0, .int .i64 0, .int .i64 0, .bool false, .bool false, .slice none 0 0]) (t := 57) ?hr ?_; (case hd | hg => rfl); (case hr => exact S1_); intro gb158 hg w21 hbox hb; have BK158 := Aside0.mk (hbox); have GW158 := Aside0.mk ((Z2_ : w.heap.size ≤ gb158)); have GE158 := Aside0.mk ((Z2_ : w.heap.size ≤ gb158)); have NB155_158 := Aside0.mk ((by rw [hg]; exact Nat.ne_of_lt (blk_lt (B1_ BK155.out)) : gb155 ≠ gb158)); have NB158_155 := Aside0.mk ((by rw [hg]; exact Nat.ne_of_gt (blk_lt (B1_ BK155.out)) : gb158 ≠ gb155)); have NB156_158 := Aside0.mk ((by rw [hg]; exact Nat.ne_of_lt (blk_lt (B1_ BK156.out)) : gb156 ≠ gb158)); have NB158_156 := Aside0.mk ((by rw [hg]; exact Nat.ne_of_gt (blk_lt (B1_ BK156.out)) : gb158 ≠ gb156)); replace BK155 := yB_ BK155 hb; replace BK156 := yB_ BK156 hb; replace HB := y2_ hb; clear hb hbox hg; have hnb22 := NB158_155.out; have hnc22 := NB155_158.out; have hnb23 := NB158_156.out; have hnc23 := NB156_158.out; obtain ⟨z24_0, z24_1, z24_2, z24_3, z24_4, z24_5, z24_6, y24_0, y24_1, y24_2, y24_3, y24_4, y24_5, y24_6⟩ := cz7_ BK158.out))
       go_roundg k1
       case measure => have := HK1.out; omega
       case rel => exact ⟨(wrap64 (x11_1 + 1)), (x157000_1), (x157001_1), (x157002_1), (x157003_1), (x157004_1), (x157005_1), E3_, H', ⟨by have := HK1.out; omega⟩, ⟨G1_ BK155.out⟩, ⟨G1_ BK156.out⟩, ⟨W2_⟩⟩
     ·
      rw [if_neg c9] at H
      exact absurd H (by simp)
    ·
     rw [if_neg c8] at H
     exact absurd H (by simp)
   ·
    rw [if_neg c7] at H
    have c7b0 : decide (x11_1 < (l0_0.length : Int)) = false := decide_eq_false c7
    clear c7
    simp only [Option.some.injEq, Prod.mk.injEq] at H
    obtain ⟨rfl, rfl, rfl, rfl, rfl, rfl, rfl, rfl⟩ := H
    have hnb25 := NB156_155.out
    have hnc25 := NB155_156.out
    obtain ⟨z26_0, z26_1, z26_2, z26_3, z26_4, z26_5, z26_6, y26_0, y26_1, y26_2, y26_3, y26_4, y26_5, y26_6⟩ := cz7_ BK156.out
    go_wp2
    refine bodyPost_ret (results_ct rfl _ _ gb156 57 #[.string (⟨#[]⟩ : ByteArray), .int .i64 0, .int .i64 0, .int .i64 0, .bool false, .bool false, .slice none 0 0] (0, 0) _ rfl (G1_ BK156.out) Tryz.underlying57 rfl (by kernel_rfl)) rfl ?_
    exact ⟨_, E1_, by first | exact Kd.R_nil _ _ _ _ _ | exact Kd.N_nil _ _ _ _ _ | exact Kd.V_nil _ _ _ _ _ | exact Kd.Q_nil _ _ _ _ _ | exact Kd.S_nil _ _ _ _ _, W2_⟩

/-! ### slices_Equal_string_string: function 55 -/
def slices_Equal_string_string.l0 : Nat → List ByteArray → List ByteArray → Int → Int → Option (Bool)
 | 0, _, _, _, _ => none
 | k + 1, x0, x1, x12, x13 => if x13 < x12 then (if 0 ≤ x13 then (if x13 < (x0.length : Int) then (if x13 < (x1.length : Int) then (if (rdOf ByteArray.empty x0 x13).toList = (rdOf ByteArray.empty x1 x13).toList then (slices_Equal_string_string.l0 k x0 x1 x12 (wrap64 (x13 + 1))) else (some false)) else (none)) else (none)) else (none)) else (some true)
def slices_Equal_string_string.f (k : Nat) (l0 : List ByteArray) (l1 : List ByteArray) : Option (Bool) := if (l0.length : Int) = (l1.length : Int) then (slices_Equal_string_string.l0 k l0 l1 (l0.length : Int) 0) else (some false)
theorem slices_Equal_string_string.mono_l : ∀ k, (∀ y0 y1 y2 y3, LeO (slices_Equal_string_string.l0 k y0 y1 y2 y3) (slices_Equal_string_string.l0 (k + 1) y0 y1 y2 y3))
 | 0 => fun _ _ _ _ r h => by simp [slices_Equal_string_string.l0] at h
 | k + 1 => by
  have ih0 := slices_Equal_string_string.mono_l k
  ·
   intro y0 y1 y2 y3
   unfold slices_Equal_string_string.l0
   repeat' (with_reducible first | exact ih0 _ _ _ _ | exact lR_ | refine LeO.ite ?_ ?_ | refine LeO.bind ?_ (fun _ => ?_))
theorem slices_Equal_string_string.mono : ∀ a0 a1 k, LeO (slices_Equal_string_string.f k a0 a1) (slices_Equal_string_string.f (k + 1) a0 a1) := by
 intro a0 a1 k
 have ih0 := slices_Equal_string_string.mono_l k
 unfold slices_Equal_string_string.f
 repeat' (with_reducible first | exact ih0 _ _ _ _ | exact lR_ | refine LeO.ite ?_ ?_ | refine LeO.bind ?_ (fun _ => ?_))
set_option maxHeartbeats 8000000 in
set_option maxRecDepth 100000 in
theorem slices_Equal_string_string.calls (k : Nat) (A0 : Option Addr) (c0 : Nat) (l0 : List ByteArray) (A1 : Option Addr) (c1 : Nat) (l1 : List ByteArray) (r : Bool) (w : World) (hr0 : Kd.C Kd.string w A0 l0.length l0) (hc0 : l0.length ≤ c0) (hr1 : Kd.C Kd.string w A1 l1.length l1) (hc1 : l1.length ≤ c1) (h : slices_Equal_string_string.f k l0 l1 = some r) :
  Calls Tryz.prog 55 #[.slice A0 l0.length c0, .slice A1 l1.length c1] w fun e w' => e = .returned (.bool r) ∧ Drawn0 w w' := by
 have HR0 := Aside0.mk hr0
 have HC0 := Aside0.mk hc0
 clear hr0 hc0
 have HR1 := Aside0.mk hr1
 have HC1 := Aside0.mk hc1
 clear hr1 hc1
 have H : (if (l0.length : Int) = (l1.length : Int) then (slices_Equal_string_string.l0 k l0 l1 (l0.length : Int) 0) else (some false)) = some r := h
 clear h
 by_cases c3 : (l0.length : Int) = (l1.length : Int)
 ·
  rw [if_pos c3] at H
  have c3b0 : ((l0.length : Int) == (l1.length : Int)) = true := beq_iff_eq.mpr c3
  have c3b1 : ((l0.length : Int) != (l1.length : Int)) = false := bne_eq_false_iff_eq.mpr c3
  have c3b2 : (l0.length == l1.length) = true := by first | simpa using c3 | (simp at c3 ⊢; omega)
  clear c3
  have H' := Aside0.mk H
  clear H
  go_enter Tryz.func55, Tryz.ntmps55
  go_wp2
  repeat (go_quiet (fail); try go_wp2)
  go_loopg [13] k (fun kq v13 w' => ∃ (x13_1 : Int), v13 = .int .i64 x13_1 ∧ Aside0 (slices_Equal_string_string.l0 kq l0 l1 (l0.length : Int) x13_1 = some r) ∧ Aside0 (kq ≤ k) ∧ Drawn0 w w')
  case atStart => exact ⟨(0), E3_, H', ⟨Nat.le_refl _⟩, D1_⟩
  case round =>
   clear H'
   (try clear c1); (try clear c3); (try clear c3b0); (try clear c3b1); (try clear c3b2)
   obtain ⟨x13_1, rfl, HA, HK1, ⟨m1, rfl⟩⟩ := hrel
   cases gk with
   | zero => exact absurd HA.out (by simp [slices_Equal_string_string.l0])
   | succ k1 =>
    have H := HA.out
    clear HA
    simp only [slices_Equal_string_string.l0] at H
    by_cases c4 : x13_1 < (l0.length : Int)
    ·
     rw [if_pos c4] at H
     have c4b0 : decide (x13_1 < (l0.length : Int)) = true := decide_eq_true c4
     clear c4
     by_cases c5 : 0 ≤ x13_1
     ·
      rw [if_pos c5] at H
      have c5b0 : decide (0 ≤ x13_1) = true := decide_eq_true c5
      clear c5
      by_cases c6 : x13_1 < (l0.length : Int)
      ·
       rw [if_pos c6] at H
       have c6b0 : decide (x13_1 < (l0.length : Int)) = true := decide_eq_true c6
       clear c6
       by_cases c7 : x13_1 < (l1.length : Int)
       ·
        rw [if_pos c7] at H
        have c7b0 : decide (x13_1 < (l1.length : Int)) = true := decide_eq_true c7
        clear c7
        by_cases c8 : (rdOf ByteArray.empty l0 x13_1).toList = (rdOf ByteArray.empty l1 x13_1).toList
        ·
         rw [if_pos c8] at H
         have c8b0 : ((rdOf ByteArray.empty l0 x13_1).toList == (rdOf ByteArray.empty l1 x13_1).toList) = true := beq_iff_eq.mpr c8
         have c8b1 : ((rdOf ByteArray.empty l0 x13_1).toList != (rdOf ByteArray.empty l1 x13_1).toList) = false := bne_eq_false_iff_eq.mpr c8
         clear c8
         have H' := Aside0.mk H
         clear H
         have p162 : 0 ≤ (x13_1 : Int) := oA_
         have q162 : x13_1 < (l0.length : Int) := oA_
         obtain ⟨ad162, e162, hx162_0⟩ := Kd.at_string HR0.out x13_1 p162 q162
         cases e162
         replace p162 := eq_true p162
         replace q162 := eq_true q162
         have p163 : 0 ≤ (x13_1 : Int) := oA_
         have q163 : x13_1 < (l1.length : Int) := oA_
         obtain ⟨ad163, e163, hx163_0⟩ := Kd.at_string HR1.out x13_1 p163 q163
         cases e163
         replace p163 := eq_true p163
         replace q163 := eq_true q163
         go_wp2
         repeat (go_quiet (fail); try go_wp2)
         go_roundg k1
         case measure => have := HK1.out; omega
         case rel => exact ⟨(wrap64 (x13_1 + 1)), E3_, H', ⟨by have := HK1.out; omega⟩, D1_⟩
        ·
         rw [if_neg c8] at H
         have c8b0 : ((rdOf ByteArray.empty l0 x13_1).toList == (rdOf ByteArray.empty l1 x13_1).toList) = false := beq_eq_false_iff_ne.mpr c8
         have c8b1 : ((rdOf ByteArray.empty l0 x13_1).toList != (rdOf ByteArray.empty l1 x13_1).toList) = true := bne_iff_ne.mpr c8
         obtain rfl := Option.some.inj H
         have p162 : 0 ≤ (x13_1 : Int) := oA_
         have q162 : x13_1 < (l0.length : Int) := oA_
         obtain ⟨ad162, e162, hx162_0⟩ := Kd.at_string HR0.out x13_1 p162 q162
         cases e162
         replace p162 := eq_true p162
         replace q162 := eq_true q162
         have p163 : 0 ≤ (x13_1 : Int) := oA_
         have q163 : x13_1 < (l1.length : Int) := oA_
         obtain ⟨ad163, e163, hx163_0⟩ := Kd.at_string HR1.out x13_1 p163 q163
         cases e163
         replace p163 := eq_true p163
         replace q163 := eq_true q163
         go_wp2
         repeat (go_quiet (fail); try go_wp2)
         go_ret
         exact ⟨E2_, D1_⟩
       ·
        rw [if_neg c7] at H
        exact absurd H (by simp)
      ·
       rw [if_neg c6] at H
       exact absurd H (by simp)
     ·
      rw [if_neg c5] at H
      exact absurd H (by simp)
    ·
     rw [if_neg c4] at H
     have c4b0 : decide (x13_1 < (l0.length : Int)) = false := decide_eq_false c4
     clear c4
     obtain rfl := Option.some.inj H
     go_wp2
     repeat (go_quiet (fail); try go_wp2)
     go_ret
     exact ⟨E2_, D1_⟩
 ·
  rw [if_neg c3] at H
  have c3b0 : ((l0.length : Int) == (l1.length : Int)) = false := beq_eq_false_iff_ne.mpr c3
  have c3b1 : ((l0.length : Int) != (l1.length : Int)) = true := bne_iff_ne.mpr c3
  have c3b2 : (l0.length == l1.length) = false := by first | simpa using c3 | (simp at c3 ⊢; omega)
  obtain rfl := Option.some.inj H
  go_enter Tryz.func55, Tryz.ntmps55
  go_wp2
  repeat (go_quiet (fail); try go_wp2)
  go_ret
  exact ⟨E2_, D1_⟩

/-! ### plan_same: function 39 -/
def plan_same.f (k : Nat) (a0_0 : ByteArray) (a0_1 : Int) (a0_2 : Int) (a0_3 : Int) (a0_4 : Bool) (a0_5 : Bool) (l0_6 : List ByteArray) (a1_0 : ByteArray) (a1_1 : Int) (a1_2 : Int) (a1_3 : Int) (a1_4 : Bool) (a1_5 : Bool) (l1_6 : List ByteArray) : Option (Bool) := if a0_1 = a1_1 then (if a0_2 = a1_2 then (if a0_3 = a1_3 then (if (a0_4 == a1_4) = true then (if (a0_5 == a1_5) = true then ((slices_Equal_string_string.f k l0_6 l1_6).bind fun t166 => (some t166)) else (some false)) else (some false)) else (some false)) else (some false)) else (some false)
theorem plan_same.mono : ∀ a0 a1 a2 a3 a4 a5 a6 a7 a8 a9 a10 a11 a12 a13 k, LeO (plan_same.f k a0 a1 a2 a3 a4 a5 a6 a7 a8 a9 a10 a11 a12 a13) (plan_same.f (k + 1) a0 a1 a2 a3 a4 a5 a6 a7 a8 a9 a10 a11 a12 a13) := by
 intro a0 a1 a2 a3 a4 a5 a6 a7 a8 a9 a10 a11 a12 a13 k
 unfold plan_same.f
 repeat' (with_reducible first | exact slices_Equal_string_string.mono _ _ _ | exact lR_ | refine LeO.ite ?_ ?_ | refine LeO.bind ?_ (fun _ => ?_))
set_option maxHeartbeats 8000000 in
set_option maxRecDepth 100000 in
theorem plan_same.calls (k : Nat) (a0_0 : ByteArray) (a0_1 : Int) (a0_2 : Int) (a0_3 : Int) (a0_4 : Bool) (a0_5 : Bool) (A0_6 : Option Addr) (c0_6 : Nat) (l0_6 : List ByteArray) (a1_0 : ByteArray) (a1_1 : Int) (a1_2 : Int) (a1_3 : Int) (a1_4 : Bool) (a1_5 : Bool) (A1_6 : Option Addr) (c1_6 : Nat) (l1_6 : List ByteArray) (r : Bool) (w : World) (hr0_6 : Kd.C Kd.string w A0_6 l0_6.length l0_6) (hc0_6 : l0_6.length ≤ c0_6) (hr1_6 : Kd.C Kd.string w A1_6 l1_6.length l1_6) (hc1_6 : l1_6.length ≤ c1_6) (h : plan_same.f k a0_0 a0_1 a0_2 a0_3 a0_4 a0_5 l0_6 a1_0 a1_1 a1_2 a1_3 a1_4 a1_5 l1_6 = some r) :
  Calls Tryz.prog 39 #[.agg #[.string a0_0, .int .i64 a0_1, .int .i64 a0_2, .int .i64 a0_3, .bool a0_4, .bool a0_5, .slice A0_6 l0_6.length c0_6], .agg #[.string a1_0, .int .i64 a1_1, .int .i64 a1_2, .int .i64 a1_3, .bool a1_4, .bool a1_5, .slice A1_6 l1_6.length c1_6]] w fun e w' => e = .returned (.bool r) ∧ Below w.heap.size w w' := by
 have hu57 := Tryz.underlying57
 have HR0_6 := Aside0.mk hr0_6
 have HC0_6 := Aside0.mk hc0_6
 clear hr0_6 hc0_6
 have HR1_6 := Aside0.mk hr1_6
 have HC1_6 := Aside0.mk hc1_6
 clear hr1_6 hc1_6
 have HB := Aside0.mk (Below.refl w.heap.size w)
 have H : (if a0_1 = a1_1 then (if a0_2 = a1_2 then (if a0_3 = a1_3 then (if (a0_4 == a1_4) = true then (if (a0_5 == a1_5) = true then ((slices_Equal_string_string.f k l0_6 l1_6).bind fun t166 => (some t166)) else (some false)) else (some false)) else (some false)) else (some false)) else (some false)) = some r := h
 clear h
 by_cases c3 : a0_1 = a1_1
 ·
  rw [if_pos c3] at H
  have c3b0 : (a0_1 == a1_1) = true := beq_iff_eq.mpr c3
  have c3b1 : (a0_1 != a1_1) = false := bne_eq_false_iff_eq.mpr c3
  clear c3
  by_cases c4 : a0_2 = a1_2
  ·
   rw [if_pos c4] at H
   have c4b0 : (a0_2 == a1_2) = true := beq_iff_eq.mpr c4
   have c4b1 : (a0_2 != a1_2) = false := bne_eq_false_iff_eq.mpr c4
   clear c4
   by_cases c5 : a0_3 = a1_3
   ·
    rw [if_pos c5] at H
    have c5b0 : (a0_3 == a1_3) = true := beq_iff_eq.mpr c5
    have c5b1 : (a0_3 != a1_3) = false := bne_eq_false_iff_eq.mpr c5
    clear c5
    by_cases c6 : (a0_4 == a1_4) = true
    ·
     rw [if_pos c6] at H
     have c6b0 : (a0_4 == a1_4) = true := c6
     (try (have c6b1 : decide (a0_4 = a1_4) = true := by simpa using c6))
     (try (have c6b2 : (a0_4 == a1_4) = true := by simpa using c6))
     clear c6
     by_cases c7 : (a0_5 == a1_5) = true
     ·
      rw [if_pos c7] at H
      have c7b0 : (a0_5 == a1_5) = true := c7
      (try (have c7b1 : decide (a0_5 = a1_5) = true := by simpa using c7))
      (try (have c7b2 : (a0_5 == a1_5) = true := by simpa using c7))
      clear c7
      obtain ⟨t166, A8, H⟩ := bS_ H
      try dsimp only at H
      obtain rfl := Option.some.inj H
      go_enter Tryz.func39, Tryz.ntmps39
      go_wp2_with (first | ((with_reducible refine gate_dst (N := 2) rfl ?_); refine box_event ?hg (N := 2) ?hd (cs := #[.string a0_0, .int .i64 a0_1, .int .i64 a0_2, .int .i64 a0_3, .bool a0_4, .bool a0_5, .slice A0_6 l0_6.length c0_6]) (t := 57) ?hr ?_; (case hd | hg => rfl); (case hr => exact S1_); intro gb164 hg w9 hbox hb; have BK164 := Aside0.mk (hbox); have GW164 := Aside0.mk ((Z1_ : w.heap.size ≤ gb164)); have GE164 := Aside0.mk ((Z1_ : w.heap.size ≤ gb164)); replace HB := y1_ hb; clear hb hbox hg) | ((with_reducible refine gate_dst (N := 3) rfl ?_); refine box_event ?hg (N := 3) ?hd (cs := #[.string a1_0, .int .i64 a1_1, .int .i64 a1_2, .int .i64 a1_3, .bool a1_4, .bool a1_5, .slice A1_6 l1_6.length c1_6]) (t := 57) ?hr ?_; (case hd | hg => rfl); (case hr => exact S1_); intro gb165 hg w10 hbox hb; have BK165 := Aside0.mk (hbox); have GW165 := Aside0.mk ((Z2_ : w.heap.size ≤ gb165)); have GE165 := Aside0.mk ((Z2_ : w.heap.size ≤ gb165)); have NB164_165 := Aside0.mk ((by rw [hg]; exact Nat.ne_of_lt (blk_lt (B1_ BK164.out)) : gb164 ≠ gb165)); have NB165_164 := Aside0.mk ((by rw [hg]; exact Nat.ne_of_gt (blk_lt (B1_ BK164.out)) : gb165 ≠ gb164)); replace BK164 := yB_ BK164 hb; replace HB := y2_ hb; clear hb hbox hg; have hnb11 := NB164_165.out; have hnc11 := NB165_164.out; obtain ⟨z12_0, z12_1, z12_2, z12_3, z12_4, z12_5, z12_6, y12_0, y12_1, y12_2, y12_3, y12_4, y12_5, y12_6⟩ := cz7_ BK164.out; obtain ⟨z13_0, z13_1, z13_2, z13_3, z13_4, z13_5, z13_6, y13_0, y13_1, y13_2, y13_3, y13_4, y13_5, y13_6⟩ := cz7_ BK165.out) | (go_at_call 55; (with_reducible refine (slices_Equal_string_string.calls k _ _ l0_6 _ _ l1_6 t166 _ ?side1 ?side2 ?side3 ?side4 A8.out).mono ?_); (case side1 => exact C1_ ((Kd.C_below HR0_6.out HB.out))); (case side2 => exact HC0_6.out); (case side3 => exact C1_ ((Kd.C_below HR1_6.out HB.out))); (case side4 => exact HC1_6.out); rintro e w' ⟨rfl, ⟨nd, rfl⟩⟩))
      go_ret
      exact ⟨E1_, W2_⟩
     ·
      rw [if_neg c7] at H
      have c7b0 : (a0_5 == a1_5) = false := by simpa using c7
      (try (have c7b1 : decide (a0_5 = a1_5) = false := by simpa using c7))
      (try (have c7b2 : (a0_5 == a1_5) = false := by simpa using c7))
      (try (have c7b3 : ¬ (a0_5 = a1_5) := by simpa using c7))
      clear c7
      obtain rfl := Option.some.inj H
      go_enter Tryz.func39, Tryz.ntmps39
      go_wp2_with (first | ((with_reducible refine gate_dst (N := 2) rfl ?_); refine box_event ?hg (N := 2) ?hd (cs := #[.string a0_0, .int .i64 a0_1, .int .i64 a0_2, .int .i64 a0_3, .bool a0_4, .bool a0_5, .slice A0_6 l0_6.length c0_6]) (t := 57) ?hr ?_; (case hd | hg => rfl); (case hr => exact S1_); intro gb164 hg w14 hbox hb; have BK164 := Aside0.mk (hbox); have GW164 := Aside0.mk ((Z1_ : w.heap.size ≤ gb164)); have GE164 := Aside0.mk ((Z1_ : w.heap.size ≤ gb164)); replace HB := y1_ hb; clear hb hbox hg) | ((with_reducible refine gate_dst (N := 3) rfl ?_); refine box_event ?hg (N := 3) ?hd (cs := #[.string a1_0, .int .i64 a1_1, .int .i64 a1_2, .int .i64 a1_3, .bool a1_4, .bool a1_5, .slice A1_6 l1_6.length c1_6]) (t := 57) ?hr ?_; (case hd | hg => rfl); (case hr => exact S1_); intro gb165 hg w15 hbox hb; have BK165 := Aside0.mk (hbox); have GW165 := Aside0.mk ((Z2_ : w.heap.size ≤ gb165)); have GE165 := Aside0.mk ((Z2_ : w.heap.size ≤ gb165)); have NB164_165 := Aside0.mk ((by rw [hg]; exact Nat.ne_of_lt (blk_lt (B1_ BK164.out)) : gb164 ≠ gb165)); have NB165_164 := Aside0.mk ((by rw [hg]; exact Nat.ne_of_gt (blk_lt (B1_ BK164.out)) : gb165 ≠ gb164)); replace BK164 := yB_ BK164 hb; replace HB := y2_ hb; clear hb hbox hg; have hnb16 := NB164_165.out; have hnc16 := NB165_164.out; obtain ⟨z17_0, z17_1, z17_2, z17_3, z17_4, z17_5, z17_6, y17_0, y17_1, y17_2, y17_3, y17_4, y17_5, y17_6⟩ := cz7_ BK164.out; obtain ⟨z18_0, z18_1, z18_2, z18_3, z18_4, z18_5, z18_6, y18_0, y18_1, y18_2, y18_3, y18_4, y18_5, y18_6⟩ := cz7_ BK165.out))
      go_ret
      exact ⟨E1_, W2_⟩
    ·
     rw [if_neg c6] at H
     have c6b0 : (a0_4 == a1_4) = false := by simpa using c6
     (try (have c6b1 : decide (a0_4 = a1_4) = false := by simpa using c6))
     (try (have c6b2 : (a0_4 == a1_4) = false := by simpa using c6))
     (try (have c6b3 : ¬ (a0_4 = a1_4) := by simpa using c6))
     clear c6
     obtain rfl := Option.some.inj H
     go_enter Tryz.func39, Tryz.ntmps39
     go_wp2_with (first | ((with_reducible refine gate_dst (N := 2) rfl ?_); refine box_event ?hg (N := 2) ?hd (cs := #[.string a0_0, .int .i64 a0_1, .int .i64 a0_2, .int .i64 a0_3, .bool a0_4, .bool a0_5, .slice A0_6 l0_6.length c0_6]) (t := 57) ?hr ?_; (case hd | hg => rfl); (case hr => exact S1_); intro gb164 hg w19 hbox hb; have BK164 := Aside0.mk (hbox); have GW164 := Aside0.mk ((Z1_ : w.heap.size ≤ gb164)); have GE164 := Aside0.mk ((Z1_ : w.heap.size ≤ gb164)); replace HB := y1_ hb; clear hb hbox hg) | ((with_reducible refine gate_dst (N := 3) rfl ?_); refine box_event ?hg (N := 3) ?hd (cs := #[.string a1_0, .int .i64 a1_1, .int .i64 a1_2, .int .i64 a1_3, .bool a1_4, .bool a1_5, .slice A1_6 l1_6.length c1_6]) (t := 57) ?hr ?_; (case hd | hg => rfl); (case hr => exact S1_); intro gb165 hg w20 hbox hb; have BK165 := Aside0.mk (hbox); have GW165 := Aside0.mk ((Z2_ : w.heap.size ≤ gb165)); have GE165 := Aside0.mk ((Z2_ : w.heap.size ≤ gb165)); have NB164_165 := Aside0.mk ((by rw [hg]; exact Nat.ne_of_lt (blk_lt (B1_ BK164.out)) : gb164 ≠ gb165)); have NB165_164 := Aside0.mk ((by rw [hg]; exact Nat.ne_of_gt (blk_lt (B1_ BK164.out)) : gb165 ≠ gb164)); replace BK164 := yB_ BK164 hb; replace HB := y2_ hb; clear hb hbox hg; have hnb21 := NB164_165.out; have hnc21 := NB165_164.out; obtain ⟨z22_0, z22_1, z22_2, z22_3, z22_4, z22_5, z22_6, y22_0, y22_1, y22_2, y22_3, y22_4, y22_5, y22_6⟩ := cz7_ BK164.out; obtain ⟨z23_0, z23_1, z23_2, z23_3, z23_4, z23_5, z23_6, y23_0, y23_1, y23_2, y23_3, y23_4, y23_5, y23_6⟩ := cz7_ BK165.out))
     go_ret
     exact ⟨E1_, W2_⟩
   ·
    rw [if_neg c5] at H
    have c5b0 : (a0_3 == a1_3) = false := beq_eq_false_iff_ne.mpr c5
    have c5b1 : (a0_3 != a1_3) = true := bne_iff_ne.mpr c5
    obtain rfl := Option.some.inj H
    go_enter Tryz.func39, Tryz.ntmps39
    go_wp2_with (first | ((with_reducible refine gate_dst (N := 2) rfl ?_); refine box_event ?hg (N := 2) ?hd (cs := #[.string a0_0, .int .i64 a0_1, .int .i64 a0_2, .int .i64 a0_3, .bool a0_4, .bool a0_5, .slice A0_6 l0_6.length c0_6]) (t := 57) ?hr ?_; (case hd | hg => rfl); (case hr => exact S1_); intro gb164 hg w24 hbox hb; have BK164 := Aside0.mk (hbox); have GW164 := Aside0.mk ((Z1_ : w.heap.size ≤ gb164)); have GE164 := Aside0.mk ((Z1_ : w.heap.size ≤ gb164)); replace HB := y1_ hb; clear hb hbox hg) | ((with_reducible refine gate_dst (N := 3) rfl ?_); refine box_event ?hg (N := 3) ?hd (cs := #[.string a1_0, .int .i64 a1_1, .int .i64 a1_2, .int .i64 a1_3, .bool a1_4, .bool a1_5, .slice A1_6 l1_6.length c1_6]) (t := 57) ?hr ?_; (case hd | hg => rfl); (case hr => exact S1_); intro gb165 hg w25 hbox hb; have BK165 := Aside0.mk (hbox); have GW165 := Aside0.mk ((Z2_ : w.heap.size ≤ gb165)); have GE165 := Aside0.mk ((Z2_ : w.heap.size ≤ gb165)); have NB164_165 := Aside0.mk ((by rw [hg]; exact Nat.ne_of_lt (blk_lt (B1_ BK164.out)) : gb164 ≠ gb165)); have NB165_164 := Aside0.mk ((by rw [hg]; exact Nat.ne_of_gt (blk_lt (B1_ BK164.out)) : gb165 ≠ gb164)); replace BK164 := yB_ BK164 hb; replace HB := y2_ hb; clear hb hbox hg; have hnb26 := NB164_165.out; have hnc26 := NB165_164.out; obtain ⟨z27_0, z27_1, z27_2, z27_3, z27_4, z27_5, z27_6, y27_0, y27_1, y27_2, y27_3, y27_4, y27_5, y27_6⟩ := cz7_ BK164.out; obtain ⟨z28_0, z28_1, z28_2, z28_3, z28_4, z28_5, z28_6, y28_0, y28_1, y28_2, y28_3, y28_4, y28_5, y28_6⟩ := cz7_ BK165.out))
    go_ret
    exact ⟨E1_, W2_⟩
  ·
   rw [if_neg c4] at H
   have c4b0 : (a0_2 == a1_2) = false := beq_eq_false_iff_ne.mpr c4
   have c4b1 : (a0_2 != a1_2) = true := bne_iff_ne.mpr c4
   obtain rfl := Option.some.inj H
   go_enter Tryz.func39, Tryz.ntmps39
   go_wp2_with (first | ((with_reducible refine gate_dst (N := 2) rfl ?_); refine box_event ?hg (N := 2) ?hd (cs := #[.string a0_0, .int .i64 a0_1, .int .i64 a0_2, .int .i64 a0_3, .bool a0_4, .bool a0_5, .slice A0_6 l0_6.length c0_6]) (t := 57) ?hr ?_; (case hd | hg => rfl); (case hr => exact S1_); intro gb164 hg w29 hbox hb; have BK164 := Aside0.mk (hbox); have GW164 := Aside0.mk ((Z1_ : w.heap.size ≤ gb164)); have GE164 := Aside0.mk ((Z1_ : w.heap.size ≤ gb164)); replace HB := y1_ hb; clear hb hbox hg) | ((with_reducible refine gate_dst (N := 3) rfl ?_); refine box_event ?hg (N := 3) ?hd (cs := #[.string a1_0, .int .i64 a1_1, .int .i64 a1_2, .int .i64 a1_3, .bool a1_4, .bool a1_5, .slice A1_6 l1_6.length c1_6]) (t := 57) ?hr ?_; (case hd | hg => rfl); (case hr => exact S1_); intro gb165 hg w30 hbox hb; have BK165 := Aside0.mk (hbox); have GW165 := Aside0.mk ((Z2_ : w.heap.size ≤ gb165)); have GE165 := Aside0.mk ((Z2_ : w.heap.size ≤ gb165)); have NB164_165 := Aside0.mk ((by rw [hg]; exact Nat.ne_of_lt (blk_lt (B1_ BK164.out)) : gb164 ≠ gb165)); have NB165_164 := Aside0.mk ((by rw [hg]; exact Nat.ne_of_gt (blk_lt (B1_ BK164.out)) : gb165 ≠ gb164)); replace BK164 := yB_ BK164 hb; replace HB := y2_ hb; clear hb hbox hg; have hnb31 := NB164_165.out; have hnc31 := NB165_164.out; obtain ⟨z32_0, z32_1, z32_2, z32_3, z32_4, z32_5, z32_6, y32_0, y32_1, y32_2, y32_3, y32_4, y32_5, y32_6⟩ := cz7_ BK164.out; obtain ⟨z33_0, z33_1, z33_2, z33_3, z33_4, z33_5, z33_6, y33_0, y33_1, y33_2, y33_3, y33_4, y33_5, y33_6⟩ := cz7_ BK165.out))
   go_ret
   exact ⟨E1_, W2_⟩
 ·
  rw [if_neg c3] at H
  have c3b0 : (a0_1 == a1_1) = false := beq_eq_false_iff_ne.mpr c3
  have c3b1 : (a0_1 != a1_1) = true := bne_iff_ne.mpr c3
  obtain rfl := Option.some.inj H
  go_enter Tryz.func39, Tryz.ntmps39
  go_wp2_with (first | ((with_reducible refine gate_dst (N := 2) rfl ?_); refine box_event ?hg (N := 2) ?hd (cs := #[.string a0_0, .int .i64 a0_1, .int .i64 a0_2, .int .i64 a0_3, .bool a0_4, .bool a0_5, .slice A0_6 l0_6.length c0_6]) (t := 57) ?hr ?_; (case hd | hg => rfl); (case hr => exact S1_); intro gb164 hg w34 hbox hb; have BK164 := Aside0.mk (hbox); have GW164 := Aside0.mk ((Z1_ : w.heap.size ≤ gb164)); have GE164 := Aside0.mk ((Z1_ : w.heap.size ≤ gb164)); replace HB := y1_ hb; clear hb hbox hg) | ((with_reducible refine gate_dst (N := 3) rfl ?_); refine box_event ?hg (N := 3) ?hd (cs := #[.string a1_0, .int .i64 a1_1, .int .i64 a1_2, .int .i64 a1_3, .bool a1_4, .bool a1_5, .slice A1_6 l1_6.length c1_6]) (t := 57) ?hr ?_; (case hd | hg => rfl); (case hr => exact S1_); intro gb165 hg w35 hbox hb; have BK165 := Aside0.mk (hbox); have GW165 := Aside0.mk ((Z2_ : w.heap.size ≤ gb165)); have GE165 := Aside0.mk ((Z2_ : w.heap.size ≤ gb165)); have NB164_165 := Aside0.mk ((by rw [hg]; exact Nat.ne_of_lt (blk_lt (B1_ BK164.out)) : gb164 ≠ gb165)); have NB165_164 := Aside0.mk ((by rw [hg]; exact Nat.ne_of_gt (blk_lt (B1_ BK164.out)) : gb165 ≠ gb164)); replace BK164 := yB_ BK164 hb; replace HB := y2_ hb; clear hb hbox hg; have hnb36 := NB164_165.out; have hnc36 := NB165_164.out; obtain ⟨z37_0, z37_1, z37_2, z37_3, z37_4, z37_5, z37_6, y37_0, y37_1, y37_2, y37_3, y37_4, y37_5, y37_6⟩ := cz7_ BK164.out; obtain ⟨z38_0, z38_1, z38_2, z38_3, z38_4, z38_5, z38_6, y38_0, y38_1, y38_2, y38_3, y38_4, y38_5, y38_6⟩ := cz7_ BK165.out))
  go_ret
  exact ⟨E1_, W2_⟩

/-! ### slices_Sorted_string: function 45, by hand -/
/-! plan.diff's map: hosts and kinds. The print is told of slices.Sorted and maps.Keys as functions of the two rows of sites (standd.py); what they do is put in by postd10.py -/
def dedupL : List (List UInt8) → List (List UInt8)
 | [] => []
 | x :: l => if x ∈ dedupL l then dedupL l else x :: dedupL l
theorem mem_dedupL (y : List UInt8) : ∀ l, y ∈ dedupL l ↔ y ∈ l := by
 intro l
 induction l with
 | nil => simp [dedupL]
 | cons x l ih =>
  unfold dedupL
  by_cases h : x ∈ dedupL l
  ·
   rw [if_pos h, ih, List.mem_cons]
   constructor
   ·
    exact Or.inr
   ·
    rintro (rfl | h2)
    ·
     exact ih.1 h
    ·
     exact h2
  ·
   rw [if_neg h, List.mem_cons, List.mem_cons, ih]
theorem nodup_dedupL : ∀ l, (dedupL l).Nodup := by
 intro l
 induction l with
 | nil => exact List.nodup_nil
 | cons x l ih =>
  unfold dedupL
  by_cases h : x ∈ dedupL l
  ·
   rw [if_pos h]; exact ih
  ·
   rw [if_neg h]; exact List.nodup_cons.2 ⟨h, ih⟩
theorem dedupL_perm {l m : List (List UInt8)} (h : ∀ x, x ∈ l ↔ x ∈ m) : (dedupL l).Perm (dedupL m) := (List.perm_ext_iff_of_nodup (nodup_dedupL l) (nodup_dedupL m)).2 fun x => by rw [mem_dedupL, mem_dedupL, h]
def hostsL (l0 l1 : List S57) : List (List UInt8) := (dedupL (l0.map (·.f0.data.toList) ++ l1.map (·.f0.data.toList))).mergeSort leB
def slices_Sorted_string.f (l0 l1 : List S57) : Option (List ByteArray) := some ((hostsL l0 l1).map fun b => ⟨b.toArray⟩)

/-! ### maps_Keys_map_string_int_string_int: function 46, by hand -/
-- over 31 39
def lookP : List (ByteArray × Int) → ByteArray → Int
 | [], _ => 0
 | (h, v) :: l, q => if h.data.toList = q.data.toList then v else lookP l q
/-- Block b is a map of strings to numbers: what was put last stands there; its keys are those that were put. -/
def KindsIs (w : World) (b n : Nat) (puts : List (ByteArray × Int)) : Prop :=
 ∃ D : DataW Unit, w.ownsMap Tryz.prog 9 (plainElem Tryz.prog 3) b n D ∧ Maps.IsMap D ∧ (∀ q : ByteArray, D.atKey (KL q) (.lit (.int .i64 0)) = .lit (.int .i64 (lookP puts q))) ∧ ∀ x : List UInt8, Maps.has D (.string x) = puts.any fun p => p.1.data.toList == x
theorem kinds_made (w : World) : KindsIs (w.alloc (.map #[] 0)) w.heap.size 0 [] :=
 ⟨_, World.ownsMap_made _ _ _ _, Maps.isMap_empty, fun q => by simp [DataW.atKey, lookP], fun x => by simp [Maps.has]⟩
theorem kinds_obj {w : World} {b n : Nat} {puts : List (ByteArray × Int)} (h : KindsIs w b n puts) : ∃ o, w.heap[b]? = some o ∧ ∀ W : World, W.heap[b]? = some o → KindsIs W b n puts := by
 obtain ⟨D, ⟨es, clock, hb, F, hs, hD⟩, hm, hr, hh⟩ := h
 exact ⟨_, hb, fun W hW => ⟨D, ⟨es, clock, hW, F, hs, hD⟩, hm, hr, hh⟩⟩
theorem KindsIs.below {w w' : World} {b n : Nat} {puts : List (ByteArray × Int)} (h : KindsIs w b n puts) (hb : Below w.heap.size w w') : KindsIs w' b n puts := by
 obtain ⟨o, ho, hall⟩ := kinds_obj h
 exact hall _ (blk_below ho hb)
theorem KindsIs.mono {w : World} {b n n' : Nat} {puts : List (ByteArray × Int)} (h : KindsIs w b n puts) (hn : n ≤ n') : KindsIs w b n' puts := by
 obtain ⟨D, ho, hm⟩ := h
 exact ⟨D, ho.mono hn, hm⟩
theorem obj_far_ {w : World} {g : Nat} {o : Obj} (h : w.heap[g]? = some o) {p : Addr} (hp : g ≠ p.block) (u : Value) : (w.setCell p u).heap[g]? = some o := (Below.heap_setCell w p u g hp).trans h
theorem zero_int_ (w : World) : (zeroValue 3).run Tryz.prog w = .ok (.int .i64 0) w := by kernel_rfl
theorem wpList_lookup_kinds {w : World} {ops : Array Oper} {rest : List Oper} {o : Oper} {a : Act} {Q : Exit → Act → World → Prop}
  (hg : o.guard = none) (m x : Operand) (t : TypeId) (hop : o.op = Op.lookup t m x false) (ht : Tryz.prog.underlying t = some (.map 9 3)) (b n : Nat) (puts : List (ByteArray × Int))
  (hm : a.eval m = .map (some b)) (hown : KindsIs w b n puts) (s : ByteArray) (hx : a.eval x = .string s) (hsz : s.size ≤ maxLen)
  (hK : wpList Tryz.prog ops Q rest (a.put o.dst (.int .i64 (lookP puts s))) w) :
  wpList Tryz.prog ops Q (o :: rest) a w := by
 refine wpList_plain hg fun K' hK' => ?_
 obtain ⟨D, ho, _, hr, _⟩ := hown
 obtain ⟨c, hrun, hat, _⟩ := ho.lookup_int keyed_str ht Tryz.underlying3 (zero_int_ w) (WideMaps.keyOf_string_mk Tryz.underlying9 hsz)
 have hc : c = lookP puts s := by
  have h2 := (hr s).symm.trans hat
  simpa using h2.symm
 subst hc
 unfold Oper.wp
 simp [execOp, hop, hm, hx, hrun, Result.andThen]
 exact hK' _ _ hK
theorem wpList_update_kinds {w : World} {ops : Array Oper} {rest : List Oper} {o : Oper} {a : Act} {Q : Exit → Act → World → Prop}
  (hg : o.guard = none) (m x v : Operand) (t : TypeId) (hop : o.op = Op.mapUpdate t m x v) (ht : Tryz.prog.underlying t = some (.map 9 3)) (b n : Nat) (puts : List (ByteArray × Int))
  (hm : a.eval m = .map (some b)) (hown : KindsIs w b n puts) (hn : n < maxLen) (s : ByteArray) (hx : a.eval x = .string s) (c : Int) (hv : a.eval v = .int .i64 c) (hc : (Lit.int .i64 c).wf = true) (hsz : s.size ≤ maxLen)
  (hK : ∀ w', KindsIs w' b (n + 1) ((s, c) :: puts) → w.grownBy w' (some b) → wpList Tryz.prog ops Q rest (a.put o.dst undef) w') :
  wpList Tryz.prog ops Q (o :: rest) a w := by
 obtain ⟨D, ho, hD, hr, hh⟩ := hown
 refine wpList_mapUpdate_own w hg m x v t hop 9 3 keyed_str ht _ b n D hm ho hn _ _ _ hx hv (WideMaps.keyOf_string_mk Tryz.underlying9 hsz) _ _ (plainElem_int Tryz.underlying3 hc) fun w' h1 hgr => hK w' ⟨_, h1, hD.put _ _, fun q => ?_, fun y => ?_⟩ hgr
 ·
  by_cases hq : q = s
  ·
   subst hq
   refine (Maps.atKey_put_same hD (by trivial) _ _).trans ?_
   simp [lookP]
  ·
   refine (Maps.atKey_put_other (fun e => hq (KL_inj e)) _ _).trans ((hr q).trans ?_)
   have h1 : ¬ s.data.toList = q.data.toList := fun e => hq (ByteArray.ext (Array.toList_inj.1 e)).symm
   simp only [lookP]
   rw [if_neg h1]
 ·
  by_cases hq : y = s.data.toList
  ·
   subst hq
   refine (Maps.has_put_same hD (by trivial) _).trans ?_
   simp
  ·
   refine (Maps.has_put_other (fun e => hq (by simpa using e)) _).trans ((hh y).trans ?_)
   rw [List.any_cons, beq_eq_false_iff_ne.2 (fun e => hq e.symm), Bool.false_or]
theorem kinds_apart {w : World} {b n : Nat} {puts : List (ByteArray × Int)} (h : KindsIs w b n puts) {α : Type} {d : Kd α} {e base : Nat} {ok : Nat → Prop} {v : Value} {xs : List α} (hR : Kd.R d e w base ok v xs) : some b ≠ v.ownBlock := by
 intro e_
 obtain ⟨cells, hc⟩ := Kd.R_typed hR b e_.symm
 obtain ⟨D, ⟨es, clock, hb, _⟩, _⟩ := h
 rw [hb] at hc
 simp at hc
theorem KindsIs.grown {w w' : World} {b n : Nat} {puts : List (ByteArray × Int)} {row : Option Nat} (h : KindsIs w b n puts) (hg : w.grownBy w' row) (hne : some b ≠ row) : KindsIs w' b n puts := by
 obtain ⟨o, ho, hall⟩ := kinds_obj h
 exact hall _ (blk_grown ho hg hne)
theorem kinds_keys (mb : Option Nat) (W : World) : Calls Tryz.prog 46 #[.map mb] W fun e w' => e = .returned (.func (.func 65) #[] #[.pointer (some ⟨W.heap.size, 0, none⟩)]) ∧ w' = W.alloc (.cells #[.map mb] 98) :=
 callsIn_wide.1 (AnyZ.keys_in Tryz.keysA Fence.wide 5 trivial rfl mb W)
theorem sorts_strings (m : Nat) : AnyZ.SortsIn Tryz.prog Tryz.sortedA_ren Fence.wide m :=
 ⟨fun blk off cap ss W hH hblk hsz => callsIn_wide.2 (Tryz.slices_Sort_string blk off cap ss W hH hblk hsz), fun p cap W => callsIn_wide.2 (Tryz.slices_Sort_string_none p cap W)⟩
def ofListsK (l : List (List UInt8)) : List ByteArray := l.map fun b => ⟨b.toArray⟩
theorem encs_ofK (l : List (List UInt8)) : encs Value.string (ofListsK l) = l.map encStr := by simp [encs, ofListsK, encStr]
theorem kinds_sorted (b n : Nat) (puts : List (ByteArray × Int)) (W : World) (h : KindsIs W b n puts) (hn : n ≤ 200000) :
  Calls Tryz.prog 45 #[.func (.func 65) #[] #[.pointer (some ⟨W.heap.size, 0, none⟩)]] (W.alloc (.cells #[.map (some b)] 98)) fun e w' => ∃ v : Value, e = .returned v ∧
   Kd.R Kd.string 9 w' (W.alloc (.cells #[.map (some b)] 98)).heap.size (fun _ => True) v (ofListsK ((dedupL (puts.map (·.1.data.toList))).mergeSort leB)) ∧ Below (W.alloc (.cells #[.map (some b)] 98)).heap.size (W.alloc (.cells #[.map (some b)] 98)) w' := by
 obtain ⟨D, ho, hm, hr, hh⟩ := h
 have hsz := ho.size_le
 have hml : (200000 : Nat) ≤ maxLen := by decide
 have hseq : SeqGives Fence.wide 2 Tryz.prog 65 #[.pointer (some ⟨W.heap.size, 0, none⟩)] encStr (fun ss => ss.Perm (strKeys D)) (Maps.size D) (W.alloc (.cells #[.map (some b)] 98)) :=
  AnyZ.keys_gives (ρ := Tryz.keysA_ren) { Tryz.keysA with } Fence.wide _ trivial rfl (by omega) W.heap.size b n D _ (by simp) (by simp) (ho.alloc _)
 have cS := AnyZ.sorted_in Tryz.sortedA Fence.wide 5 trivial trivial trivial trivial rfl (by omega) (sorts_strings _) (enters_of Tryz.func64 (by kernel_rfl) rfl) 65 #[.pointer (some ⟨W.heap.size, 0, none⟩)] trivial (enters_of Tryz.func65 (by kernel_rfl) rfl) _ _ (by omega) (by omega) _ hseq
 change CallsIn _ _ Tryz.prog 45 _ _ _ at cS
 refine (callsIn_wide.1 cS).mono ?_
 rintro e w' ⟨v, ss, rfl, hS, hrow, _, hb⟩
 refine ⟨v, rfl, ?_, hb⟩
 obtain ⟨es, hD, hpw, _⟩ := ho.entries keyed_str
 obtain ⟨es', hD', hko⟩ := ho.keysOf
 obtain rfl : es = es' := by rw [hD] at hD'; simpa using hD'
 have hp : (dedupL (puts.map (·.1.data.toList))).Perm (strKeys D) := by
  rw [hD]
  refine perm_strKeys hpw (fun p hp => by obtain ⟨y, hy⟩ := hko p hp; obtain ⟨x, _, hx, _⟩ := Maps.keyOf_str Tryz.underlying9 hy; exact ⟨x, hx⟩) (nodup_dedupL _) fun x => ?_
  rw [← hD, hh x, mem_dedupL, List.any_eq_true, List.mem_map]
  constructor
  ·
   rintro ⟨p, hp, rfl⟩
   exact ⟨p, hp, by simp⟩
  ·
   rintro ⟨p, hp, e⟩
   exact ⟨p, hp, by simpa using e⟩
 have e1 : ss.mergeSort (fun x y => decide (x ≤ y)) = (dedupL (puts.map (·.1.data.toList))).mergeSort leB := mergeSort_of_perm (hS.trans hp.symm)
 have hl : ss.length = (ofListsK ((dedupL (puts.map (·.1.data.toList))).mergeSort leB)).length := by rw [← e1]; simp [ofListsK]
 refine Kd.R_of_own (enc := Value.string) (h1 := fun _ => rfl) ?_ (fun _ _ => trivial)
 rw [← hl, encs_ofK, ← e1]
 exact hrow
def kindF (k : Nat) (l0 : List S57) (s : S57) : Option Int := (conf_Config_Find.f k l0 s.f0).bind fun b => if b.2.2.2.2.2.2.2 = true then ((plan_same.f k b.1 b.2.1 b.2.2.1 b.2.2.2.1 b.2.2.2.2.1 b.2.2.2.2.2.1 b.2.2.2.2.2.2.1 s.f0 s.f1 s.f2 s.f3 s.f4 s.f5 s.f6).bind fun e => some (if e = true then 0 else 1)) else some 3
theorem kindF_mono (l0 : List S57) (s : S57) (k : Nat) : LeO (kindF k l0 s) (kindF (k + 1) l0 s) := by
 unfold kindF
 refine LeO.bind (conf_Config_Find.mono _ _ _) (fun b => ?_)
 refine LeO.ite ?_ (LeO.refl _)
 exact LeO.bind (plan_same.mono _ _ _ _ _ _ _ _ _ _ _ _ _ _ _) (fun _ => LeO.refl _)
theorem kindF_le {l0 : List S57} {s : S57} {v : Int} {k k1 : Nat} (hk : k1 ≤ k) (h : kindF k1 l0 s = some v) : kindF k l0 s = some v := by
 induction hk with
 | refl => exact h
 | step _ ih => exact kindF_mono l0 s _ _ ih
def putsA (l0 : List S57) : List (ByteArray × Int) := (l0.map fun s => (s.f0, (2 : Int))).reverse
def putsB (k : Nat) (l0 l1 : List S57) : List (ByteArray × Int) := (l1.map fun s => (s.f0, (kindF k l0 s).getD 0)).reverse ++ putsA l0
def maps_Keys_map_string_int_string_int.f (k : Nat) (l0 l1 : List S57) (h : ByteArray) : Option Int := if (l1.all fun s => (kindF k l0 s).isSome) = true ∧ h.size ≤ 1000000 then some (lookP (putsB k l0 l1) h) else none
theorem putsB_le {l0 l1 : List S57} {k k1 : Nat} (hk : k1 ≤ k) (h : (l1.all fun s => (kindF k1 l0 s).isSome) = true) : putsB k1 l0 l1 = putsB k l0 l1 := by
 unfold putsB
 congr 2
 refine List.map_congr_left fun s hs => ?_
 obtain ⟨v, hv⟩ := Option.isSome_iff_exists.1 (List.all_eq_true.1 h s hs)
 rw [hv, kindF_le hk hv]
theorem maps_Keys_map_string_int_string_int.mono (l0 l1 : List S57) (h : ByteArray) (k : Nat) : LeO (maps_Keys_map_string_int_string_int.f k l0 l1 h) (maps_Keys_map_string_int_string_int.f (k + 1) l0 l1 h) := by
 intro r hr
 unfold maps_Keys_map_string_int_string_int.f at hr ⊢
 by_cases hc : (l1.all fun s => (kindF k l0 s).isSome) = true ∧ h.size ≤ 1000000
 ·
  rw [if_pos hc] at hr
  have h1 : (l1.all fun s => (kindF (k + 1) l0 s).isSome) = true := List.all_eq_true.2 fun s hs => by
   obtain ⟨v, hv⟩ := Option.isSome_iff_exists.1 (List.all_eq_true.1 hc.1 s hs)
   rw [kindF_mono l0 s k v hv]
   rfl
  rw [if_pos ⟨h1, hc.2⟩, ← putsB_le (Nat.le_succ k) hc.1]
  exact hr
 ·
  rw [if_neg hc] at hr
  cases hr
theorem puts_stepA (l : List S57) (q : Nat) (h : q < l.length) : ((l.take (q + 1)).map fun s => (s.f0, (2 : Int))).reverse = ((rd_T57 l (q : Int)).f0, 2) :: ((l.take q).map fun s => (s.f0, (2 : Int))).reverse := by
 have e : rd_T57 l (q : Int) = l[q] := by simp [rd_T57, h]
 rw [e, List.take_succ_eq_append_getElem h, List.map_append, List.reverse_append]
 rfl
theorem puts_stepB (k : Nat) (l0 l1 : List S57) (q : Nat) (h : q < l1.length) {v : Int} (hv : kindF k l0 (rd_T57 l1 (q : Int)) = some v) : ((l1.take (q + 1)).map fun s => (s.f0, (kindF k l0 s).getD 0)).reverse ++ putsA l0 = ((rd_T57 l1 (q : Int)).f0, v) :: (((l1.take q).map fun s => (s.f0, (kindF k l0 s).getD 0)).reverse ++ putsA l0) := by
 have e : rd_T57 l1 (q : Int) = l1[q] := by simp [rd_T57, h]
 rw [e] at hv ⊢
 rw [List.take_succ_eq_append_getElem h, List.map_append, List.reverse_append]
 show ((l1[q]).f0, (kindF k l0 l1[q]).getD 0) :: _ = _
 rw [hv]
 rfl
theorem hosts_puts (k : Nat) (l0 l1 : List S57) : ofListsK ((dedupL ((putsB k l0 l1).map (·.1.data.toList))).mergeSort leB) = (hostsL l0 l1).map fun b => ⟨b.toArray⟩ := by
 unfold hostsL
 have : ((dedupL ((putsB k l0 l1).map (·.1.data.toList))).mergeSort leB) = (dedupL (l0.map (·.f0.data.toList) ++ l1.map (·.f0.data.toList))).mergeSort leB := by
  refine mergeSort_of_perm (dedupL_perm fun x => ?_)
  simp only [putsB, putsA, List.mem_map, List.mem_append, List.mem_reverse]
  constructor
  ·
   rintro ⟨p, h | h, rfl⟩
   ·
    obtain ⟨s, hs, rfl⟩ := h
    exact Or.inr ⟨s, hs, rfl⟩
   ·
    obtain ⟨s, hs, rfl⟩ := h
    exact Or.inl ⟨s, hs, rfl⟩
  ·
   rintro (⟨s, hs, rfl⟩ | ⟨s, hs, rfl⟩)
   ·
    exact ⟨_, Or.inr ⟨s, hs, rfl⟩, rfl⟩
   ·
    exact ⟨_, Or.inl ⟨s, hs, rfl⟩, rfl⟩
 rw [this]
 rfl

end Go.Proofs.YtlncpbnadlpihaaGreatDoor.PAll
