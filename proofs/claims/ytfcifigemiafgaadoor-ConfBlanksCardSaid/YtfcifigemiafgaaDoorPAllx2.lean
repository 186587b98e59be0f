import Derived.Test.YtfcifigemiafgaaDoorPAllx0
namespace Go.Proofs.YtfcifigemiafgaaDoor.PAll
open Go.RowKit Go.Proofs.YtfcifigemiafgaaDoorW.PrintWords Go.Proofs.YtfcifigemiafgaaDoorW.PrintLast Go.Proofs.YtfcifigemiafgaaDoorW.PrintMore
attribute [local go_sem] max2_int min2_int max_two min_two max_three min_three max_four min_four   -- for this text's walks alone
set_option linter.unusedVariables false
set_option linter.unusedSimpArgs false

/-! ### slices_Clone_string_string: function 19, by hand -/
theorem infoStr_ : (Tryd.prog.info? 9).map (fun i => (i.zero, i.size, i.bytes)) = some (some (.string ⟨#[]⟩), 1, 16) := by kernel_rfl
def slices_Clone_string_string.f (l : List ByteArray) : Option (List ByteArray) := if l.length ≤ 1000000000 then some l else none
set_option maxHeartbeats 2000000 in
set_option maxRecDepth 100000 in
theorem slices_Clone_string_string.calls (A : Option Addr) (c : Nat) (l : List ByteArray) (r : List ByteArray) (w : World) (hr : Kd.C Kd.string w A l.length l) (hc : l.length ≤ c) (h : slices_Clone_string_string.f l = some r) :
  Calls Tryd.prog 19 #[.slice A l.length c] w fun e w' => ∃ v0_ : Value, e = .returned (v0_) ∧ Kd.R Kd.string 9 w' w.heap.size (fun _ => True) v0_ r ∧ Below w.heap.size w w' := by
 unfold slices_Clone_string_string.f at h
 by_cases hl : l.length ≤ 1000000000
 case neg => rw [if_neg hl] at h; cases h
 rw [if_pos hl] at h
 obtain rfl := Option.some.inj h
 clear h
 have HR := Aside0.mk hr
 cases A with
 | none =>
  have hnil : l = [] := by
   cases l with
   | nil => rfl
   | cons x l => obtain ⟨ad, e, _⟩ := hr.2.2 (by simp); cases e
  subst hnil
  clear hr
  have ke : ∀ W, (binOp .eql 27 (.slice none 0 c) (.slice none 0 0)).run Tryd.prog W = .ok (.bool true) W := fun W => run_eql_slice_nil W 27 9 none _ c Tryd.underlying27
  go_enter Tryd.func19, Tryd.ntmps19
  go_wp2
  go_ret
  exact ⟨_, rfl, Kd.R_nil _ _ _ _ _, Below.refl _ _⟩
 | some ad =>
  clear hr
  have ke : ∀ W, (binOp .eql 27 (.slice (some ad) l.length c) (.slice none 0 0)).run Tryd.prog W = .ok (.bool false) W := fun W => run_eql_slice_nil W 27 9 (some ad) _ c Tryd.underlying27
  go_enter Tryd.func19, Tryd.ntmps19
  go_wp2_with (first | ((with_reducible refine gate_dst (N := 5) rfl ?_); refine Kd.R_lit Kd.string w.heap.size 9 ?hg (N := 5) ?hd (xs := ([] : List ByteArray)) (inner := []) (ok := fun _ => True) (okp := fun _ => True) ?hr (Reps.none _ _) (fun _ hk => hk) trivial (Below.refl _ _) (Nat.le_refl _) (by simp) ?_; (case hd | hg => rfl); (case hr => exact S1_); intro v1 w1 ho hb hg_ hnew_; have HO := Aside0.mk ho; have HB := Aside0.mk hb; clear ho hb hg_ hnew_) | ((with_reducible refine gate_builtin (b := .append) (xs := #[.tmp 5, .tmp 6]) rfl ?_); at_builtin; refine Kd.R_append_rows Kd.string (w0 := w) w.heap.size rfl (.tmp 5) (.tmp 6) 27 9 (.string ⟨#[]⟩) 16 rfl Tryd.underlying27 infoStr_ rfl (by decide) (by omega) v1 [] l (some ad) l.length c (fun _ => True) (fun _ => False) rfl rfl HO.out (Kd.C_below HR.out HB.out) (fun x cs hk => hk) (fun _ hk => hk.elim) (fun _ _ => trivial) HB.out HB.out.size (by simp; omega) ?_; intro v2 w2 ho hb hg hat; clear hg hat))
  go_ret
  exact ⟨_, rfl, ho, hb⟩

/-! ### conf_Config_Find: function 10 -/
def conf_Config_Find.l0 : Nat → ByteArray → List (S29) → Int → Int → Option (ByteArray × Int × Int × Int × Bool × Bool × List ByteArray × Bool)
 | 0, _, _, _, _ => none
 | k + 1, x1, x9, x10, x11 => if x11 < x10 then (if 0 ≤ x11 then (if x11 < (x9.length : Int) then (if ((rd_T29 x9 x11).f0).toList = x1.toList then ((slices_Clone_string_string.f ((rd_T29 x9 x11).f6)).bind fun t105 => (some ((rd_T29 x9 x11).f0, (rd_T29 x9 x11).f1, (rd_T29 x9 x11).f2, (rd_T29 x9 x11).f3, (rd_T29 x9 x11).f4, (rd_T29 x9 x11).f5, t105, true))) else (conf_Config_Find.l0 k x1 x9 x10 (wrap64 (x11 + 1)))) else (none)) else (none)) else (some ((⟨#[]⟩ : ByteArray), 0, 0, 0, false, false, ([] : List ByteArray), false))
def conf_Config_Find.f (k : Nat) (l0_0 : List (S29)) (a1 : ByteArray) : Option (ByteArray × Int × Int × Int × Bool × Bool × List ByteArray × Bool) := conf_Config_Find.l0 k a1 l0_0 (l0_0.length : Int) 0
theorem conf_Config_Find.mono_l : ∀ k, (∀ y0 y1 y2 y3, LeO (conf_Config_Find.l0 k y0 y1 y2 y3) (conf_Config_Find.l0 (k + 1) y0 y1 y2 y3))
 | 0 => fun _ _ _ _ r h => by simp [conf_Config_Find.l0] at h
 | k + 1 => by
  have ih0 := conf_Config_Find.mono_l k
  ·
   intro y0 y1 y2 y3
   unfold conf_Config_Find.l0
   repeat' (with_reducible first | exact ih0 _ _ _ _ | exact lR_ | refine LeO.ite ?_ ?_ | refine LeO.bind ?_ (fun _ => ?_))
theorem conf_Config_Find.mono : ∀ a0 a1 k, LeO (conf_Config_Find.f k a0 a1) (conf_Config_Find.f (k + 1) a0 a1) := by
 intro a0 a1 k
 have ih0 := conf_Config_Find.mono_l k
 unfold conf_Config_Find.f
 repeat' (with_reducible first | exact ih0 _ _ _ _ | exact lR_ | refine LeO.ite ?_ ?_ | refine LeO.bind ?_ (fun _ => ?_))
set_option maxHeartbeats 8000000 in
set_option maxRecDepth 100000 in
theorem conf_Config_Find.calls (k : Nat) (A0_0 : Option Addr) (c0_0 : Nat) (l0_0 : List (S29)) (a1 : ByteArray) (r1 : ByteArray) (r2 : Int) (r3 : Int) (r4 : Int) (r5 : Bool) (r6 : Bool) (r7 : List ByteArray) (r8 : Bool) (w : World) (hr0_0 : Kd.C k29 w A0_0 l0_0.length l0_0) (hc0_0 : l0_0.length ≤ c0_0) (h : conf_Config_Find.f k l0_0 a1 = some (r1, r2, r3, r4, r5, r6, r7, r8)) :
  Calls Tryd.prog 10 #[.agg #[.slice A0_0 l0_0.length c0_0], .string a1] w fun e w' => ∃ v6_ : Value, e = .returned (.tuple #[.agg #[.string r1, .int .i64 r2, .int .i64 r3, .int .i64 r4, .bool r5, .bool r6, v6_], .bool r8]) ∧ Kd.R Kd.string 9 w' w.heap.size (fun _ => True) v6_ r7 ∧ Below w.heap.size w w' := by
 have hu24 := Tryd.underlying24
 have hu29 := Tryd.underlying29
 have HR0_0 := Aside0.mk hr0_0
 have HC0_0 := Aside0.mk hc0_0
 clear hr0_0 hc0_0
 have HB := Aside0.mk (Below.refl w.heap.size w)
 have H : (conf_Config_Find.l0 k a1 l0_0 (l0_0.length : Int) 0) = some (r1, r2, r3, r4, r5, r6, r7, r8) := h
 clear h
 have H' := Aside0.mk H
 clear H
 go_enter Tryd.func10, Tryd.ntmps10
 go_wp2_with (first | ((with_reducible refine gate_dst (N := 2) rfl ?_); refine box_event ?hg (N := 2) ?hd (cs := #[.slice A0_0 l0_0.length c0_0]) (t := 24) ?hr ?_; (case hd | hg => rfl); (case hr => exact S1_); intro gb101 hg w3 hbox hb; have BK101 := Aside0.mk (hbox); have GW101 := Aside0.mk ((Z1_ : w.heap.size ≤ gb101)); have GE101 := Aside0.mk ((Z1_ : w.heap.size ≤ gb101)); replace HB := y1_ hb; clear hb hbox hg) | ((with_reducible refine gate_dst (N := 4) rfl ?_); refine box_event ?hg (N := 4) ?hd (cs := #[.string (⟨#[]⟩ : ByteArray), .int .i64 0, .int .i64 0, .int .i64 0, .bool false, .bool false, .slice none 0 0]) (t := 29) ?hr ?_; (case hd | hg => rfl); (case hr => exact S1_); intro gb102 hg w4 hbox hb; have BK102 := Aside0.mk (hbox); have GW102 := Aside0.mk ((Z2_ : w.heap.size ≤ gb102)); have GE102 := Aside0.mk ((Z2_ : w.heap.size ≤ gb102)); have NB101_102 := Aside0.mk ((by rw [hg]; exact Nat.ne_of_lt (blk_lt (B1_ BK101.out)) : gb101 ≠ gb102)); have NB102_101 := Aside0.mk ((by rw [hg]; exact Nat.ne_of_gt (blk_lt (B1_ BK101.out)) : gb102 ≠ gb101)); replace BK101 := yB_ BK101 hb; replace HB := y2_ hb; clear hb hbox hg; have hnb5 := NB101_102.out; have hnc5 := NB102_101.out; obtain ⟨z6_0, y6_0⟩ := cz1_ BK101.out))
 go_loopg [11] k (fun kq v11 w' => ∃ (x11_1 : Int) (x103000_1 : ByteArray) (x103001_1 : Int) (x103002_1 : Int) (x103003_1 : Int) (x103004_1 : Bool) (x103005_1 : Bool), v11 = .int .i64 x11_1 ∧ Aside0 (conf_Config_Find.l0 kq a1 l0_0 (l0_0.length : Int) x11_1 = some (r1, r2, r3, r4, r5, r6, r7, r8)) ∧ Aside0 (kq ≤ k) ∧ Aside0 (w'.heap[gb101]? = some (.cells #[(.slice A0_0 l0_0.length c0_0)] 24 (0, 0))) ∧ Aside0 (w'.heap[gb102]? = some (.cells #[.string x103000_1, .int .i64 x103001_1, .int .i64 x103002_1, .int .i64 x103003_1, .bool x103004_1, .bool x103005_1, (.slice none 0 0)] 29 (0, 0))) ∧ Aside0 (Below w.heap.size w w'))
 case atStart => exact ⟨(0), ((⟨#[]⟩ : ByteArray)), (0), (0), (0), (false), (false), E3_, H', ⟨Nat.le_refl _⟩, ⟨B1_ BK101.out⟩, ⟨B1_ BK102.out⟩, ⟨W2_⟩⟩
 case round =>
  clear H'
  (try clear z6_0 y6_0)
  obtain ⟨x11_1, x103000_1, x103001_1, x103002_1, x103003_1, x103004_1, x103005_1, rfl, HA, HK1, BK101, BK102, HB⟩ := hrel
  cases gk with
  | zero => exact absurd HA.out (by simp [conf_Config_Find.l0])
  | succ k1 =>
   have H := HA.out
   clear HA
   simp only [conf_Config_Find.l0] at H
   by_cases c7 : x11_1 < (l0_0.length : Int)
   ·
    rw [if_pos c7] at H
    have c7b0 : decide (x11_1 < (l0_0.length : Int)) = true := decide_eq_true c7
    clear c7
    by_cases c8 : 0 ≤ x11_1
    ·
     rw [if_pos c8] at H
     have c8b0 : decide (0 ≤ x11_1) = true := decide_eq_true c8
     clear c8
     by_cases c9 : x11_1 < (l0_0.length : Int)
     ·
      rw [if_pos c9] at H
      have c9b0 : decide (x11_1 < (l0_0.length : Int)) = true := decide_eq_true c9
      clear c9
      by_cases c10 : ((rd_T29 l0_0 x11_1).f0).toList = a1.toList
      ·
       rw [if_pos c10] at H
       have c10b0 : (((rd_T29 l0_0 x11_1).f0).toList == a1.toList) = true := beq_iff_eq.mpr c10
       have c10b1 : (((rd_T29 l0_0 x11_1).f0).toList != a1.toList) = false := bne_eq_false_iff_eq.mpr c10
       clear c10
       obtain ⟨t105, A11, H⟩ := bS_ H
       try dsimp only at H
       simp only [Option.some.injEq, Prod.mk.injEq] at H
       obtain ⟨rfl, rfl, rfl, rfl, rfl, rfl, rfl, rfl⟩ := H
       have p103 : 0 ≤ (x11_1 : Int) := oA_
       have q103 : x11_1 < (l0_0.length : Int) := oA_
       obtain ⟨ad103, A103_6, c103_6, e103, hx103_0, hx103_1, hx103_2, hx103_3, hx103_4, hx103_5, hx103_6, hl103_6, hi103_6⟩ := at_T29 HR0_0.out x11_1 p103 q103
       cases e103
       replace hx103_0 := (HB.out.cell (World.block_lt_of_cell? w _ hx103_0)).trans hx103_0
       replace hx103_1 := (HB.out.cell (World.block_lt_of_cell? w _ hx103_1)).trans hx103_1
       replace hx103_2 := (HB.out.cell (World.block_lt_of_cell? w _ hx103_2)).trans hx103_2
       replace hx103_3 := (HB.out.cell (World.block_lt_of_cell? w _ hx103_3)).trans hx103_3
       replace hx103_4 := (HB.out.cell (World.block_lt_of_cell? w _ hx103_4)).trans hx103_4
       replace hx103_5 := (HB.out.cell (World.block_lt_of_cell? w _ hx103_5)).trans hx103_5
       replace hx103_6 := (HB.out.cell (World.block_lt_of_cell? w _ hx103_6)).trans hx103_6
       have HR103_6 := Aside0.mk hi103_6
       have HC103_6 := Aside0.mk hl103_6
       clear hi103_6 hl103_6
       replace p103 := eq_true p103
       replace q103 := eq_true q103
       go_wp2_with (first | ((with_reducible refine gate_dst (N := 7) rfl ?_); refine box_event ?hg (N := 7) ?hd (cs := #[.string (⟨#[]⟩ : ByteArray), .int .i64 0, .int .i64 0, .int .i64 0, .bool false, .bool false, .slice none 0 0]) (t := 29) ?hr ?_; (case hd | hg => rfl); (case hr => exact S1_); intro gb104 hg w12 hbox hb; have BK104 := Aside0.mk (hbox); have GW104 := Aside0.mk ((Z2_ : w.heap.size ≤ gb104)); have GE104 := Aside0.mk ((Z2_ : w.heap.size ≤ gb104)); have NB101_104 := Aside0.mk ((by rw [hg]; exact Nat.ne_of_lt (blk_lt (B1_ BK101.out)) : gb101 ≠ gb104)); have NB104_101 := Aside0.mk ((by rw [hg]; exact Nat.ne_of_gt (blk_lt (B1_ BK101.out)) : gb104 ≠ gb101)); have NB102_104 := Aside0.mk ((by rw [hg]; exact Nat.ne_of_lt (blk_lt (B1_ BK102.out)) : gb102 ≠ gb104)); have NB104_102 := Aside0.mk ((by rw [hg]; exact Nat.ne_of_gt (blk_lt (B1_ BK102.out)) : gb104 ≠ gb102)); replace BK101 := yB_ BK101 hb; replace BK102 := yB_ BK102 hb; replace HB := y2_ hb; clear hb hbox hg; have hnb13 := NB104_101.out; have hnc13 := NB101_104.out; have hnb14 := NB104_102.out; have hnc14 := NB102_104.out; obtain ⟨z15_0, z15_1, z15_2, z15_3, z15_4, z15_5, z15_6, y15_0, y15_1, y15_2, y15_3, y15_4, y15_5, y15_6⟩ := cz7_ BK104.out) | ((with_reducible refine gate_callee (f := 19) rfl ?_); refine goesL_ (some 21) rfl rfl Tryd.func19 (by kernel_rfl) rfl #[.slice A103_6 ((rd_T29 l0_0 x11_1).f6).length c103_6] rfl T1_ ?_; (with_reducible refine (slices_Clone_string_string.calls _ _ ((rd_T29 l0_0 x11_1).f6) t105 _ ?side1 ?side2 A11.out).mono ?_); (case side1 => exact Kd.C_below HR103_6.out W2_); (case side2 => exact HC103_6.out); rintro e w16 ⟨v106, rfl, ho0, hb⟩; refine ⟨_, rfl, ?_⟩; have HO107 := Aside0.mk (Kd.R_lower ho0 (below_size W2_)); replace BK101 := Aside0.mk (blk_below (g := gb101) (o := .cells #[.slice (some ad103) l0_0.length c0_0] 24 (0, 0)) (G1_ BK101.out) hb); replace BK102 := Aside0.mk (blk_below (g := gb102) (o := .cells #[.string x103000_1, .int .i64 x103001_1, .int .i64 x103002_1, .int .i64 x103003_1, .bool x103004_1, .bool x103005_1, .slice none 0 0] 29 (0, 0)) (G1_ BK102.out) hb); replace BK104 := Aside0.mk (blk_below (g := gb104) (o := .cells #[.string ((rd_T29 l0_0 x11_1).f0), .int .i64 ((rd_T29 l0_0 x11_1).f1), .int .i64 ((rd_T29 l0_0 x11_1).f2), .int .i64 ((rd_T29 l0_0 x11_1).f3), .bool ((rd_T29 l0_0 x11_1).f4), .bool ((rd_T29 l0_0 x11_1).f5), .slice A103_6 ((rd_T29 l0_0 x11_1).f6).length c103_6] 29 (0, 0)) (G1_ BK104.out) hb); replace HB := y2_ hb; (try clear hb); (try clear ho0); obtain ⟨Ao17, co17, eo17⟩ := Kd.R_slice HO107.out; subst eo17; obtain ⟨z18_0, z18_1, z18_2, z18_3, z18_4, z18_5, z18_6, y18_0, y18_1, y18_2, y18_3, y18_4, y18_5, y18_6⟩ := cz7_ BK104.out; have hnb19 := NB102_101.out; have hnc19 := NB101_102.out; obtain ⟨z20_0, z20_1, z20_2, z20_3, z20_4, z20_5, z20_6, y20_0, y20_1, y20_2, y20_3, y20_4, y20_5, y20_6⟩ := cz7_ BK102.out))
       refine bodyPost_ret (results_ct rfl _ _ gb102 29 #[.string ((rd_T29 l0_0 x11_1).f0), .int .i64 ((rd_T29 l0_0 x11_1).f1), .int .i64 ((rd_T29 l0_0 x11_1).f2), .int .i64 ((rd_T29 l0_0 x11_1).f3), .bool ((rd_T29 l0_0 x11_1).f4), .bool ((rd_T29 l0_0 x11_1).f5), .slice Ao17 t105.length co17] (0, 0) _ rfl (G1_ BK102.out) Tryd.underlying29 rfl (by kernel_rfl)) rfl ?_
       exact ⟨_, E1_, by refine R1_ ?_; exact Kd.R_mono (Kd.R_far (p := ⟨gb102, 6, none⟩) (Kd.R_far (p := ⟨gb102, 5, none⟩) (Kd.R_far (p := ⟨gb102, 4, none⟩) (Kd.R_far (p := ⟨gb102, 3, none⟩) (Kd.R_far (p := ⟨gb102, 2, none⟩) (Kd.R_far (p := ⟨gb102, 1, none⟩) (Kd.R_far (p := ⟨gb102, 0, none⟩) (Kd.R_far (p := ⟨gb104, 6, none⟩) (Kd.R_types (Kd.R_types HO107.out BK104.out (by decide)) BK102.out (by decide)) (fun _ hk => hk.1.2) (.slice Ao17 t105.length co17)) (fun _ hk => hk.2) (.string ((rd_T29 l0_0 x11_1).f0))) (fun _ hk => hk.2) (.int .i64 ((rd_T29 l0_0 x11_1).f1))) (fun _ hk => hk.2) (.int .i64 ((rd_T29 l0_0 x11_1).f2))) (fun _ hk => hk.2) (.int .i64 ((rd_T29 l0_0 x11_1).f3))) (fun _ hk => hk.2) (.bool ((rd_T29 l0_0 x11_1).f4))) (fun _ hk => hk.2) (.bool ((rd_T29 l0_0 x11_1).f5))) (fun _ hk => hk.2) (.slice Ao17 t105.length co17)) (fun _ hk => trivial), W2_⟩
      ·
       rw [if_neg c10] at H
       have c10b0 : (((rd_T29 l0_0 x11_1).f0).toList == a1.toList) = false := beq_eq_false_iff_ne.mpr c10
       have c10b1 : (((rd_T29 l0_0 x11_1).f0).toList != a1.toList) = true := bne_iff_ne.mpr c10
       have H' := Aside0.mk H
       clear H
       have p103 : 0 ≤ (x11_1 : Int) := oA_
       have q103 : x11_1 < (l0_0.length : Int) := oA_
       obtain ⟨ad103, A103_6, c103_6, e103, hx103_0, hx103_1, hx103_2, hx103_3, hx103_4, hx103_5, hx103_6, hl103_6, hi103_6⟩ := at_T29 HR0_0.out x11_1 p103 q103
       cases e103
       replace hx103_0 := (HB.out.cell (World.block_lt_of_cell? w _ hx103_0)).trans hx103_0
       replace hx103_1 := (HB.out.cell (World.block_lt_of_cell? w _ hx103_1)).trans hx103_1
       replace hx103_2 := (HB.out.cell (World.block_lt_of_cell? w _ hx103_2)).trans hx103_2
       replace hx103_3 := (HB.out.cell (World.block_lt_of_cell? w _ hx103_3)).trans hx103_3
       replace hx103_4 := (HB.out.cell (World.block_lt_of_cell? w _ hx103_4)).trans hx103_4
       replace hx103_5 := (HB.out.cell (World.block_lt_of_cell? w _ hx103_5)).trans hx103_5
       replace hx103_6 := (HB.out.cell (World.block_lt_of_cell? w _ hx103_6)).trans hx103_6
       have HR103_6 := Aside0.mk hi103_6
       have HC103_6 := Aside0.mk hl103_6
       clear hi103_6 hl103_6
       replace p103 := eq_true p103
       replace q103 := eq_true q103
       go_wp2_with (first | ((with_reducible refine gate_dst (N := 7) rfl ?_); refine box_event ?hg (N := 7) ?hd (cs := #[.string (⟨#[]⟩ : ByteArray), .int .i64 0, .int .i64 0, .int .i64 0, .bool false, .bool false, .slice none 0 0]) (t := 29) ?hr ?_; (case hd | hg => rfl); (case hr => exact S1_); intro gb104 hg w21 hbox hb; have BK104 := Aside0.mk (hbox); have GW104 := Aside0.mk ((Z2_ : w.heap.size ≤ gb104)); have GE104 := Aside0.mk ((Z2_ : w.heap.size ≤ gb104)); have NB101_104 := Aside0.mk ((by rw [hg]; exact Nat.ne_of_lt (blk_lt (B1_ BK101.out)) : gb101 ≠ gb104)); have NB104_101 := Aside0.mk ((by rw [hg]; exact Nat.ne_of_gt (blk_lt (B1_ BK101.out)) : gb104 ≠ gb101)); have NB102_104 := Aside0.mk ((by rw [hg]; exact Nat.ne_of_lt (blk_lt (B1_ BK102.out)) : gb102 ≠ gb104)); have NB104_102 := Aside0.mk ((by rw [hg]; exact Nat.ne_of_gt (blk_lt (B1_ BK102.out)) : gb104 ≠ gb102)); replace BK101 := yB_ BK101 hb; replace BK102 := yB_ BK102 hb; replace HB := y2_ hb; clear hb hbox hg; have hnb22 := NB104_101.out; have hnc22 := NB101_104.out; have hnb23 := NB104_102.out; have hnc23 := NB102_104.out; obtain ⟨z24_0, z24_1, z24_2, z24_3, z24_4, z24_5, z24_6, y24_0, y24_1, y24_2, y24_3, y24_4, y24_5, y24_6⟩ := cz7_ BK104.out))
       go_roundg k1
       case measure => have := HK1.out; omega
       case rel => exact ⟨(wrap64 (x11_1 + 1)), (x103000_1), (x103001_1), (x103002_1), (x103003_1), (x103004_1), (x103005_1), E3_, H', ⟨by have := HK1.out; omega⟩, ⟨G1_ BK101.out⟩, ⟨G1_ BK102.out⟩, ⟨W2_⟩⟩
     ·
      rw [if_neg c9] at H
      exact absurd H (by simp)
    ·
     rw [if_neg c8] at H
     exact absurd H (by simp)
   ·
    rw [if_neg c7] at H
    have c7b0 : decide (x11_1 < (l0_0.length : Int)) = false := decide_eq_false c7
    clear c7
    simp only [Option.some.injEq, Prod.mk.injEq] at H
    obtain ⟨rfl, rfl, rfl, rfl, rfl, rfl, rfl, rfl⟩ := H
    have hnb25 := NB102_101.out
    have hnc25 := NB101_102.out
    obtain ⟨z26_0, z26_1, z26_2, z26_3, z26_4, z26_5, z26_6, y26_0, y26_1, y26_2, y26_3, y26_4, y26_5, y26_6⟩ := cz7_ BK102.out
    go_wp2
    refine bodyPost_ret (results_ct rfl _ _ gb102 29 #[.string (⟨#[]⟩ : ByteArray), .int .i64 0, .int .i64 0, .int .i64 0, .bool false, .bool false, .slice none 0 0] (0, 0) _ rfl (G1_ BK102.out) Tryd.underlying29 rfl (by kernel_rfl)) rfl ?_
    exact ⟨_, E1_, by first | exact Kd.R_nil _ _ _ _ _ | exact Kd.N_nil _ _ _ _ _ | exact Kd.V_nil _ _ _ _ _ | exact Kd.Q_nil _ _ _ _ _ | exact Kd.S_nil _ _ _ _ _, W2_⟩

/-! ### conf_reader_next: function 30, by hand -/
/-! ## The reader of words -/
/-- A word, and its line. -/
abbrev WD := ByteArray × Int
/-- What a reader holds (block g): the words that come (they lie in w0), its fault. -/
def RdI (w0 w : World) (g : Nat) (ws : List WD) (code line : Int) : Prop :=
 ∃ wb off n cap, n = ws.length ∧ w.heap[g]? = some (.cells #[.slice (some ⟨wb, off, none⟩) n cap, .int .i64 code, .int .i64 line] 64 (0, 0)) ∧ n ≤ cap ∧
  ∀ j (hj : j < ws.length), w0.cell? ⟨wb, off + j * 2, none⟩ = some (.string ws[j].1) ∧ w0.cell? ⟨wb, off + j * 2 + 1, none⟩ = some (.int .i64 ws[j].2)
theorem RdI.kept {w0 w w' : World} {g : Nat} {ws : List WD} {code line : Int} {S : Nat → Prop} (h : RdI w0 w g ws code line) (hk : Kept w w' S) (hg : ¬ S g) : RdI w0 w' g ws code line := by
 obtain ⟨wb, off, n, cap, hn, hh, hc, hr⟩ := h
 exact ⟨wb, off, n, cap, hn, blk_kept hh hk hg, hc, hr⟩
theorem Kept.refl_ (w : World) (S : Nat → Prop) : Kept w w S := ⟨Nat.le_refl _, fun _ _ _ => rfl⟩
theorem Kept.trans_ {w w1 w2 : World} {S : Nat → Prop} (h : Kept w w1 S) (h2 : Kept w1 w2 S) : Kept w w2 S := ⟨Nat.le_trans h.1 h2.1, fun i hi hs => (h2.2 i (Nat.lt_of_lt_of_le hi h.1) hs).trans (h.2 i hi hs)⟩
theorem Kept.mono_ {w w1 : World} {S S' : Nat → Prop} (h : Kept w w1 S) (hS : ∀ k, S k → S' k) : Kept w w1 S' := ⟨h.1, fun i hi hs => h.2 i hi (fun h' => hs (hS i h'))⟩
theorem Kept.set_ (w : World) (g j : Nat) (u : Value) : Kept w (w.setCell ⟨g, j, none⟩ u) (fun k => k = g) := ⟨by simp, fun i _ hs => Below.heap_setCell w ⟨g, j, none⟩ u i hs⟩
theorem Kept.below_ {w w1 : World} (S : Nat → Prop) (h : Below w.heap.size w w1) : Kept w w1 S := ⟨h.size, fun i hi _ => h.block i hi⟩
def emptyB : ByteArray := ⟨#[]⟩
def nextV (ws : List WD) (code : Int) : ByteArray := if code = 0 then (ws.headD (emptyB, 0)).1 else emptyB
set_option maxHeartbeats 1000000 in
set_option maxRecDepth 100000 in
theorem next_calls (w0 w : World) (g : Nat) (ws : List WD) (code line : Int) (hI : RdI w0 w g ws code line) (hB : Below w0.heap.size w0 w) (hne : ws ≠ []) :
  Calls Tryd.prog 30 #[.pointer (some ⟨g, 0, none⟩)] w fun e w' => e = .returned (.string (nextV ws code)) ∧ w = w' := by
 obtain ⟨wb, off, n, cap, hn, hh, hc, hr⟩ := hI
 have hn0 : 0 < ws.length := List.length_pos_iff.2 hne
 have hw := hr 0 hn0
 rw [Nat.zero_mul, Nat.add_zero] at hw
 have c0 := pw_cell_below hB hw.1
 have g0 := (blk_cell hh 0).trans rfl
 have g1 := (blk_cell hh 1).trans rfl
 have hhd : ws[0] = ws.headD (emptyB, 0) := by cases ws with | nil => exact absurd rfl hne | cons x r => rfl
 by_cases hcode : code = 0
 ·
  have HV := Aside0.mk (show nextV ws code = ws[0].1 from by unfold nextV; rw [if_pos hcode, hhd])
  obtain ⟨s, hs⟩ : ∃ s, s = ws[0].1 := ⟨_, rfl⟩
  rw [← hs] at c0 HV
  subst hcode
  have q1 : (0 < n) = True := eq_true (by omega)
  have q2 : ((0 : Int) < (n : Int)) = True := eq_true (by omega)
  clear hs hhd hr hw hn hc hn0 hne hh
  go_enter Tryd.func30, Tryd.ntmps30
  go_wp2
  go_ret
  exact ⟨by rw [HV.out]; rfl, rfl⟩
 ·
  have HV := Aside0.mk (show nextV ws code = emptyB from by unfold nextV; rw [if_neg hcode])
  have q1 : (code != 0) = true := bne_iff_ne.mpr hcode
  clear hhd hr hw hn hc hn0 hne hh hcode c0 g0
  go_enter Tryd.func30, Tryd.ntmps30
  go_wp2
  go_ret
  exact ⟨by rw [HV.out]; rfl, rfl⟩

/-! ### conf_reader_fail: function 31, by hand -/
-- over 30
def failC (code e : Int) : Int := if code = 0 then e else code
def failL (ws : List WD) (code line : Int) : Int := if code = 0 then (ws.headD (emptyB, 0)).2 else line
set_option maxHeartbeats 1000000 in
set_option maxRecDepth 100000 in
theorem fail_calls (w0 w : World) (g : Nat) (ws : List WD) (code line : Int) (er : Int) (hI : RdI w0 w g ws code line) (hB : Below w0.heap.size w0 w) (hg : w0.heap.size ≤ g) (hne : ws ≠ []) :
  Calls Tryd.prog 31 #[.pointer (some ⟨g, 0, none⟩), .int .i64 er] w fun e w' => e = .returned (.tuple #[]) ∧ RdI w0 w' g ws (failC code er) (failL ws code line) ∧ Kept w w' (fun k => k = g) ∧ Below w0.heap.size w0 w' := by
 obtain ⟨wb, off, n, cap, hn, hh, hc, hr⟩ := hI
 have hn0 : 0 < ws.length := List.length_pos_iff.2 hne
 have hw := hr 0 hn0
 rw [Nat.zero_mul, Nat.add_zero] at hw
 have c0 := pw_cell_below hB hw.2
 have g0 := (blk_cell hh 0).trans rfl
 have g1 := (blk_cell hh 1).trans rfl
 have g2 := (blk_cell hh 2).trans rfl
 have f1 := blk_frozen hh 1
 have f2 := blk_frozen hh 2
 have hhd : ws[0] = ws.headD (emptyB, 0) := by cases ws with | nil => exact absurd rfl hne | cons x r => rfl
 have HH := Aside0.mk hh
 have HR := Aside0.mk hr
 have HN := Aside0.mk hn
 by_cases hcode : code = 0
 ·
  have HC := Aside0.mk (show failC code er = er from by unfold failC; rw [if_pos hcode])
  have HV := Aside0.mk (show failL ws code line = ws[0].2 from by unfold failL; rw [if_pos hcode, hhd])
  obtain ⟨s, hs⟩ : ∃ s, s = ws[0].2 := ⟨_, rfl⟩
  rw [← hs] at c0 HV
  subst hcode
  have q1 : (0 < n) = True := eq_true (by omega)
  have q2 : ((0 : Int) < (n : Int)) = True := eq_true (by omega)
  clear hs hhd hr hw hn hn0 hne hh
  go_enter Tryd.func31, Tryd.ntmps31
  go_wp2
  go_end0
  refine ⟨rfl, ⟨wb, off, n, cap, HN.out, ?_, hc, HR.out⟩, Kept.trans_ (Kept.set_ w g 1 _) (Kept.set_ _ g 2 _), (hB.setCell hg _).setCell hg _⟩
  rw [HC.out, HV.out]
  exact blk_put (blk_put HH.out 1 _ rfl) 2 _ rfl
 ·
  have HC := Aside0.mk (show failC code er = code from by unfold failC; rw [if_neg hcode])
  have HV := Aside0.mk (show failL ws code line = line from by unfold failL; rw [if_neg hcode])
  have q1 : (code == 0) = false := beq_eq_false_iff_ne.mpr hcode
  clear hhd hr hw hn hn0 hne hh hcode c0 g0
  go_enter Tryd.func31, Tryd.ntmps31
  go_wp2
  go_end0
  exact ⟨rfl, ⟨wb, off, n, cap, HN.out, by rw [HC.out, HV.out]; exact HH.out, hc, HR.out⟩, Kept.refl_ _ _, hB⟩

/-! ### conf_reader_take: function 34, by hand -/
-- over 31
def takeW (ws : List WD) (code : Int) : List WD := if code = 0 then (match ws with | _ :: y :: r => y :: r | l => l) else ws
theorem takeW_ne {ws : List WD} (code : Int) (h : ws ≠ []) : takeW ws code ≠ [] := by
 unfold takeW
 split
 ·
  match ws, h with
  | [x], _ => simp
  | x :: y :: r, _ => simp
 ·
  exact h
set_option maxHeartbeats 1000000 in
set_option maxRecDepth 100000 in
theorem take_calls (w0 w : World) (g : Nat) (ws : List WD) (code line : Int) (hI : RdI w0 w g ws code line) (hB : Below w0.heap.size w0 w) (hg : w0.heap.size ≤ g) :
  Calls Tryd.prog 34 #[.pointer (some ⟨g, 0, none⟩)] w fun e w' => e = .returned (.tuple #[]) ∧ RdI w0 w' g (takeW ws code) code line ∧ Kept w w' (fun k => k = g) ∧ Below w0.heap.size w0 w' := by
 obtain ⟨wb, off, n, cap, hn, hh, hc, hr⟩ := hI
 have g0 := (blk_cell hh 0).trans rfl
 have g1 := (blk_cell hh 1).trans rfl
 have f0 := blk_frozen hh 0
 have HH := Aside0.mk hh
 have HR := Aside0.mk hr
 have HN := Aside0.mk hn
 by_cases hcode : code = 0
 ·
  subst hcode
  by_cases h1 : 1 < n
  ·
   obtain ⟨x, y, r, rfl⟩ : ∃ x y r, ws = x :: y :: r := by
    match ws, hn with
    | [], hn => simp at hn; omega
    | [x], hn => simp at hn; omega
    | x :: y :: r, _ => exact ⟨x, y, r, rfl⟩
   have HT := Aside0.mk (show takeW (x :: y :: r) 0 = y :: r from rfl)
   have q1 : ((1 : Int) < (n : Int)) = True := eq_true (by omega)
   have q2 : decide ((1 : Int) < (n : Int)) = true := decide_eq_true (by omega)
   have q3 : (1 < n) = True := eq_true h1
   have q7 : ((1 : Int) ≤ (n : Int)) = True := eq_true (by omega)
   have q4 : (1 ≤ n) = True := eq_true (by omega)
   have q5 : (1 ≤ cap) = True := eq_true (by omega)
   have q6 : (n ≤ cap) = True := eq_true hc
   have hcap : (1 = cap) = False := eq_false (by omega)
   have hcap2 : (cap = 1) = False := eq_false (by omega)
   have HCP := Aside0.mk hc
   have H1 := Aside0.mk h1
   clear hh hr hn hc h1
   go_enter Tryd.func34, Tryd.ntmps34
   go_wp2
   go_end0
   refine ⟨rfl, ⟨wb, off + 2, n - 1, cap - 1, ?_, ?_, ?_, ?_⟩, Kept.set_ w g 0 _, hB.setCell hg _⟩
   ·
    rw [HT.out]; have := HN.out; simp only [List.length_cons] at *; omega
   ·
    exact blk_put HH.out 0 _ rfl
   ·
    have := HCP.out; omega
   ·
    rw [HT.out]
    intro j hj
    have := HR.out (j + 1) (by simp only [List.length_cons] at *; omega)
    rw [show off + (j + 1) * 2 = off + 2 + j * 2 by omega] at this
    exact this
  ·
   have HT := Aside0.mk (show takeW ws 0 = ws from by
    unfold takeW
    rw [if_pos rfl]
    match ws, hn with
    | [], _ => rfl
    | [x], _ => rfl
    | x :: y :: r, hn => simp at hn; omega)
   have q1 : ((1 : Int) < (n : Int)) = False := eq_false (by omega)
   have q2 : decide ((1 : Int) < (n : Int)) = false := decide_eq_false (by omega)
   have q3 : (1 < n) = False := eq_false h1
   have HCP := Aside0.mk hc
   clear hh hr hn hc h1
   go_enter Tryd.func34, Tryd.ntmps34
   go_wp2
   go_end0
   exact ⟨rfl, by rw [HT.out]; exact ⟨wb, off, n, cap, HN.out, HH.out, HCP.out, HR.out⟩, Kept.refl_ _ _, hB⟩
 ·
  have HT := Aside0.mk (show takeW ws code = ws from by unfold takeW; rw [if_neg hcode])
  have q1 : (code == 0) = false := beq_eq_false_iff_ne.mpr hcode
  have HCP := Aside0.mk hc
  clear hh hr hn hc hcode g0
  go_enter Tryd.func34, Tryd.ntmps34
  go_wp2
  go_end0
  exact ⟨rfl, by rw [HT.out]; exact ⟨wb, off, n, cap, HN.out, HH.out, HCP.out, HR.out⟩, Kept.refl_ _ _, hB⟩

/-! ### conf_reader_must: function 32, by hand -/
-- over 34
structure RS where
 ws : List WD
 code : Int
 line : Int
def RS.next (s : RS) : ByteArray := nextV s.ws s.code
def RS.fail (s : RS) (e : Int) : RS := ⟨s.ws, failC s.code e, failL s.ws s.code s.line⟩
def RS.take (s : RS) : RS := ⟨takeW s.ws s.code, s.code, s.line⟩
def RS.must (s : RS) (t : ByteArray) : RS := (if s.next.toList = t.toList then s else s.fail 30).take
/-- A reader in memory. -/
def RdS (w0 w : World) (g : Nat) (s : RS) : Prop := RdI w0 w g s.ws s.code s.line ∧ s.ws ≠ [] ∧ Below w0.heap.size w0 w ∧ w0.heap.size ≤ g
theorem rs_next (w0 w : World) (g : Nat) (s : RS) (h : RdS w0 w g s) : Calls Tryd.prog 30 #[.pointer (some ⟨g, 0, none⟩)] w fun e w' => e = .returned (.string s.next) ∧ w = w' :=
 next_calls w0 w g s.ws s.code s.line h.1 h.2.2.1 h.2.1
theorem rs_fail (w0 w : World) (g : Nat) (s : RS) (er : Int) (h : RdS w0 w g s) : Calls Tryd.prog 31 #[.pointer (some ⟨g, 0, none⟩), .int .i64 er] w fun e w' => e = .returned (.tuple #[]) ∧ RdS w0 w' g (s.fail er) ∧ Kept w w' (fun k => k = g) :=
 (fail_calls w0 w g s.ws s.code s.line er h.1 h.2.2.1 h.2.2.2 h.2.1).mono fun _ _ ⟨he, h1, h2, h3⟩ => ⟨he, ⟨h1, h.2.1, h3, h.2.2.2⟩, h2⟩
theorem rs_take (w0 w : World) (g : Nat) (s : RS) (h : RdS w0 w g s) : Calls Tryd.prog 34 #[.pointer (some ⟨g, 0, none⟩)] w fun e w' => e = .returned (.tuple #[]) ∧ RdS w0 w' g s.take ∧ Kept w w' (fun k => k = g) :=
 (take_calls w0 w g s.ws s.code s.line h.1 h.2.2.1 h.2.2.2).mono fun _ _ ⟨he, h1, h2, h3⟩ => ⟨he, ⟨h1, takeW_ne _ h.2.1, h3, h.2.2.2⟩, h2⟩
set_option maxHeartbeats 1000000 in
set_option maxRecDepth 100000 in
theorem rs_must (w0 w : World) (g : Nat) (s : RS) (t : ByteArray) (h : RdS w0 w g s) : Calls Tryd.prog 32 #[.pointer (some ⟨g, 0, none⟩), .string t] w fun e w' => e = .returned (.tuple #[]) ∧ RdS w0 w' g (s.must t) ∧ Kept w w' (fun k => k = g) := by
 have CN := rs_next w0 w g s h
 by_cases ht : s.next.toList = t.toList
 ·
  have HM := Aside0.mk (show s.must t = s.take from by unfold RS.must; rw [if_pos ht])
  have q0 : (s.next.toList == t.toList) = true := beq_iff_eq.mpr ht
  have q1 : (s.next.toList != t.toList) = false := bne_eq_false_iff_eq.mpr ht
  have CT := Aside0.mk (rs_take w0 w g s h)
  clear ht
  go_enter Tryd.func32, Tryd.ntmps32
  go_wp2_with (first | (go_at_call 30; refine CN.mono ?_; rintro e w' ⟨rfl, rfl⟩) | (go_at_call 34; refine CT.out.mono ?_; rintro e w1 ⟨rfl, h1, k1⟩))
  go_end0
  exact ⟨rfl, by rw [HM.out]; exact h1, k1⟩
 ·
  have HM := Aside0.mk (show s.must t = (s.fail 30).take from by unfold RS.must; rw [if_neg ht])
  have q0 : (s.next.toList == t.toList) = false := beq_eq_false_iff_ne.mpr ht
  have q1 : (s.next.toList != t.toList) = true := bne_iff_ne.mpr ht
  have CF := Aside0.mk (rs_fail w0 w g s 30 h)
  clear ht
  go_enter Tryd.func32, Tryd.ntmps32
  go_wp2_with (first | (go_at_call 30; refine CN.mono ?_; rintro e w' ⟨rfl, rfl⟩) | (go_at_call 31; refine CF.out.mono ?_; rintro e w1 ⟨rfl, h1, k1⟩))
  refine (rs_take w0 w1 g (s.fail 30) h1).mono ?_
  rintro e w2 ⟨rfl, h2, k2⟩
  go_wp2
  go_end0
  exact ⟨rfl, by rw [HM.out]; exact h2, Kept.trans_ k1 k2⟩

/-! ### sign_Number: function 41 -/
def sign_Number.l0 : Nat → ByteArray → Int → Int → Int → Option (Int × Bool)
 | 0, _, _, _, _ => none
 | k + 1, x0, x4, x7, x8 => if x8 < x7 then (if 0 ≤ x8 then (if x8 < (x0.size : Int) then (if (bt x0 x8) < 48 then (some (0, false)) else (if (bt x0 x8) > 57 then (some (0, false)) else (sign_Number.l0 k x0 (mn (wrap64 ((wrap64 (10 * x4)) + (((bt x0 x8) - 48) % 256))) 2147483648) x7 (wrap64 (x8 + 1))))) else (none)) else (none)) else (some (x4, (x0.toList != ([] : List UInt8))))
def sign_Number.f (k : Nat) (a0 : ByteArray) : Option (Int × Bool) := sign_Number.l0 k a0 0 (a0.size : Int) 0
theorem sign_Number.mono_l : ∀ k, (∀ y0 y1 y2 y3, LeO (sign_Number.l0 k y0 y1 y2 y3) (sign_Number.l0 (k + 1) y0 y1 y2 y3))
 | 0 => fun _ _ _ _ r h => by simp [sign_Number.l0] at h
 | k + 1 => by
  have ih0 := sign_Number.mono_l k
  ·
   intro y0 y1 y2 y3
   unfold sign_Number.l0
   repeat' (with_reducible first | exact ih0 _ _ _ _ | exact lR_ | refine LeO.ite ?_ ?_ | refine LeO.bind ?_ (fun _ => ?_))
theorem sign_Number.mono : ∀ a0 k, LeO (sign_Number.f k a0) (sign_Number.f (k + 1) a0) := by
 intro a0 k
 have ih0 := sign_Number.mono_l k
 unfold sign_Number.f
 repeat' (with_reducible first | exact ih0 _ _ _ _ | exact lR_ | refine LeO.ite ?_ ?_ | refine LeO.bind ?_ (fun _ => ?_))
set_option maxHeartbeats 8000000 in
set_option maxRecDepth 100000 in
theorem sign_Number.calls (k : Nat) (a0 : ByteArray) (r1 : Int) (r2 : Bool) (w : World) (h : sign_Number.f k a0 = some (r1, r2)) :
  Calls Tryd.prog 41 #[.string a0] w fun e w' => e = .returned (.tuple #[.int .i64 r1, .bool r2]) ∧ Below w.heap.size w w' := by
 have HB := Aside0.mk (Below.refl w.heap.size w)
 have H : (sign_Number.l0 k a0 0 (a0.size : Int) 0) = some (r1, r2) := h
 clear h
 have H' := Aside0.mk H
 clear H
 go_enter Tryd.func41, Tryd.ntmps41
 go_wp2
 go_loopg [4, 8] k (fun kq v4 v8 w' => ∃ (x4_1 : Int) (x8_1 : Int), v4 = .int .i64 x4_1 ∧ v8 = .int .i64 x8_1 ∧ Aside0 (sign_Number.l0 kq a0 x4_1 (a0.size : Int) x8_1 = some (r1, r2)) ∧ Aside0 (kq ≤ k) ∧ Aside0 (Below w.heap.size w w'))
 case atStart => exact ⟨(0), (0), E3_, E3_, H', ⟨Nat.le_refl _⟩, ⟨W1_⟩⟩
 case round =>
  clear H'
  obtain ⟨x4_1, x8_1, rfl, rfl, HA, HK1, HB⟩ := hrel
  cases gk with
  | zero => exact absurd HA.out (by simp [sign_Number.l0])
  | succ k1 =>
   have H := HA.out
   clear HA
   simp only [sign_Number.l0] at H
   by_cases c2 : x8_1 < (a0.size : Int)
   ·
    rw [if_pos c2] at H
    have c2b0 : decide (x8_1 < (a0.size : Int)) = true := decide_eq_true c2
    clear c2
    by_cases c3 : 0 ≤ x8_1
    ·
     rw [if_pos c3] at H
     have c3b0 : decide (0 ≤ x8_1) = true := decide_eq_true c3
     clear c3
     by_cases c4 : x8_1 < (a0.size : Int)
     ·
      rw [if_pos c4] at H
      have c4b0 : decide (x8_1 < (a0.size : Int)) = true := decide_eq_true c4
      clear c4
      by_cases c6 : (bt a0 x8_1) < 48
      ·
       rw [if_pos c6] at H
       have c6b0 : decide ((bt a0 x8_1) < 48) = true := decide_eq_true c6
       clear c6
       simp only [Option.some.injEq, Prod.mk.injEq] at H
       obtain ⟨rfl, rfl⟩ := H
       have p5 : 0 ≤ (x8_1 : Int) := oA_
       have q5 : x8_1 < (a0.size : Int) := oA_
       have hx5 := bt_at a0 x8_1
       replace p5 := eq_true p5
       replace q5 := eq_true q5
       go_wp2
       go_ret2
       exact ⟨E1_, W1_⟩
      ·
       rw [if_neg c6] at H
       have c6b0 : decide ((bt a0 x8_1) < 48) = false := decide_eq_false c6
       clear c6
       by_cases c8 : (bt a0 x8_1) > 57
       ·
        rw [if_pos c8] at H
        have c8b0 : decide (57 < (bt a0 x8_1)) = true := decide_eq_true c8
        clear c8
        simp only [Option.some.injEq, Prod.mk.injEq] at H
        obtain ⟨rfl, rfl⟩ := H
        have p5 : 0 ≤ (x8_1 : Int) := oA_
        have q5 : x8_1 < (a0.size : Int) := oA_
        have hx5 := bt_at a0 x8_1
        replace p5 := eq_true p5
        replace q5 := eq_true q5
        have p7 : 0 ≤ (x8_1 : Int) := oA_
        have q7 : x8_1 < (a0.size : Int) := oA_
        have hx7 := bt_at a0 x8_1
        replace p7 := eq_true p7
        replace q7 := eq_true q7
        go_wp2
        go_ret2
        exact ⟨E1_, W1_⟩
       ·
        rw [if_neg c8] at H
        have c8b0 : decide (57 < (bt a0 x8_1)) = false := decide_eq_false c8
        clear c8
        obtain ⟨ji10, hji10⟩ : ∃ j_ : Int, (mn (wrap64 ((wrap64 (10 * x4_1)) + (((bt a0 x8_1) - 48) % 256))) 2147483648) = j_ := ⟨_, rfl⟩
        replace H : (sign_Number.l0 k1 a0 ji10 (a0.size : Int) (wrap64 (x8_1 + 1))) = some (r1, r2) := by first | (rw [hji10] at H; exact H) | (simp only [hji10] at H ⊢; exact H)
        have hji10_ : (if 2147483648 < (wrap64 ((wrap64 (10 * x4_1)) + (((bt a0 x8_1) - 48) % 256))) then 2147483648 else (wrap64 ((wrap64 (10 * x4_1)) + (((bt a0 x8_1) - 48) % 256)))) = ji10 := hji10
        have H' := Aside0.mk H
        clear H
        have p5 : 0 ≤ (x8_1 : Int) := oA_
        have q5 : x8_1 < (a0.size : Int) := oA_
        have hx5 := bt_at a0 x8_1
        replace p5 := eq_true p5
        replace q5 := eq_true q5
        have p7 : 0 ≤ (x8_1 : Int) := oA_
        have q7 : x8_1 < (a0.size : Int) := oA_
        have hx7 := bt_at a0 x8_1
        replace p7 := eq_true p7
        replace q7 := eq_true q7
        have p9 : 0 ≤ (x8_1 : Int) := oA_
        have q9 : x8_1 < (a0.size : Int) := oA_
        have hx9 := bt_at a0 x8_1
        replace p9 := eq_true p9
        replace q9 := eq_true q9
        go_wp2
        go_roundg k1
        case measure => have := HK1.out; omega
        case rel => exact ⟨(ji10), (wrap64 (x8_1 + 1)), (by first | rfl | (simp; done) | (simp only [← hji10] <;> (first | rfl | simp)) | (simp [*]; done)), E3_, H', ⟨by have := HK1.out; omega⟩, ⟨W1_⟩⟩
     ·
      rw [if_neg c4] at H
      exact absurd H (by simp)
    ·
     rw [if_neg c3] at H
     exact absurd H (by simp)
   ·
    rw [if_neg c2] at H
    have c2b0 : decide (x8_1 < (a0.size : Int)) = false := decide_eq_false c2
    clear c2
    simp only [Option.some.injEq, Prod.mk.injEq] at H
    obtain ⟨rfl, rfl⟩ := H
    go_wp2
    go_ret2
    exact ⟨E1_, W1_⟩

/-! ### strconv_lower: function 101 -/
def strconv_lower.f (a0 : Int) : Option (Int) := some (Go.bits .or .u8 a0 32)
set_option maxHeartbeats 8000000 in
set_option maxRecDepth 100000 in
theorem strconv_lower.calls (a0 : Int) (r : Int) (w : World) (h : strconv_lower.f a0 = some r) :
  Calls Tryd.prog 101 #[.int .u8 a0] w fun e w' => e = .returned (.int .u8 r) ∧ Drawn0 w w' := by
 have H : (some (Go.bits .or .u8 a0 32)) = some r := h
 clear h
 obtain rfl := Option.some.inj H
 go_enter Tryd.func101, Tryd.ntmps101
 go_wp2
 go_ret
 exact ⟨E2_, D1_⟩

end Go.Proofs.YtfcifigemiafgaaDoor.PAll
