import Derived.Test.YtlncpbnadlpihaaGreatDoorPAllx0
import Derived.Test.YtlncpbnadlpihaaGreatDoorPAllx6
namespace Go.Proofs.YtlncpbnadlpihaaGreatDoor.PAll
open Go.RowKit Go.Proofs.YtlncpbnadlpihaaGreatDoorW.PrintWords Go.Proofs.YtlncpbnadlpihaaGreatDoorW.PrintLast Go.Proofs.YtlncpbnadlpihaaGreatDoorW.PrintMore
attribute [local go_sem] max2_int min2_int max_two min_two max_three min_three max_four min_four   -- for this text's walks alone
set_option linter.unusedVariables false
set_option linter.unusedSimpArgs false

/-! ### plan_diff: function 34 -/
mutual
def plan_diff.l0 : Nat → List (S57) → Int → Int → List (S57) → List (S57) → Option ((List (S40)))
 | 0, _, _, _, _, _ => none
 | k + 1, x17, x18, x19, x168000, x169000 => if x19 < x18 then (if 0 ≤ x19 then (if x19 < (x17.length : Int) then (plan_diff.l0 k x17 x18 (wrap64 (x19 + 1)) x168000 x169000) else (none)) else (none)) else (plan_diff.l1 k x17 x169000 (x169000.length : Int) 0 x168000)
def plan_diff.l1 : Nat → List (S57) → List (S57) → Int → Int → List (S57) → Option ((List (S40)))
 | 0, _, _, _, _, _ => none
 | k + 1, x17, x28, x29, x30, x168000 => if x30 < x29 then (if 0 ≤ x30 then (if x30 < (x28.length : Int) then ((conf_Config_Find.f k x168000 ((rd_T57 x28 x30).f0)).bind fun bt173 => (if bt173.2.2.2.2.2.2.2 = true then ((plan_same.f k bt173.1 bt173.2.1 bt173.2.2.1 bt173.2.2.2.1 bt173.2.2.2.2.1 bt173.2.2.2.2.2.1 bt173.2.2.2.2.2.2.1 ((rd_T57 x28 x30).f0) ((rd_T57 x28 x30).f1) ((rd_T57 x28 x30).f2) ((rd_T57 x28 x30).f3) ((rd_T57 x28 x30).f4) ((rd_T57 x28 x30).f5) ((rd_T57 x28 x30).f6)).bind fun t184 => (if t184 = true then (plan_diff.l1 k x17 x28 x29 (wrap64 (x30 + 1)) x168000) else (plan_diff.l1 k x17 x28 x29 (wrap64 (x30 + 1)) x168000))) else (plan_diff.l1 k x17 x28 x29 (wrap64 (x30 + 1)) x168000))) else (none)) else (none)) else ((slices_Sorted_string.f x17 x28).bind fun t185 => (plan_diff.l2 k ([] : List (S40)) x17 x28 t185 (t185.length : Int) 0))
def plan_diff.l2 : Nat → List (S40) → List (S57) → List (S57) → List ByteArray → Int → Int → Option ((List (S40)))
 | 0, _, _, _, _, _, _ => none
 | k + 1, x12, x17, x28, x60, x61, x62 => if x62 < x61 then (if 0 ≤ x62 then (if x62 < (x60.length : Int) then ((maps_Keys_map_string_int_string_int.f k x17 x28 (rdOf ByteArray.empty x60 x62)).bind fun t189 => (if x12.length < 5864062014805 then (plan_diff.l2 k (x12 ++ [(⟨t189, rdOf ByteArray.empty x60 x62⟩ : S40)]) x17 x28 x60 x61 (wrap64 (x62 + 1))) else (none))) else (none)) else (none)) else (some x12)
end
def hostsOk (l0 l1 : List (S57)) : Bool := decide (l0.length ≤ 100000) && decide (l1.length ≤ 100000) && (l0.all fun s => decide (s.f0.size ≤ 1000000)) && (l1.all fun s => decide (s.f0.size ≤ 1000000))
def plan_diff.f (k : Nat) (l0_0 : List (S57)) (l1_0 : List (S57)) : Option ((List (S40))) := if hostsOk l0_0 l1_0 = true then (plan_diff.l0 k l0_0 (l0_0.length : Int) 0 l0_0 l1_0) else none
theorem plan_diff.mono_l : ∀ k, (∀ y0 y1 y2 y3 y4, LeO (plan_diff.l0 k y0 y1 y2 y3 y4) (plan_diff.l0 (k + 1) y0 y1 y2 y3 y4)) ∧ (∀ y0 y1 y2 y3 y4, LeO (plan_diff.l1 k y0 y1 y2 y3 y4) (plan_diff.l1 (k + 1) y0 y1 y2 y3 y4)) ∧ (∀ y0 y1 y2 y3 y4 y5, LeO (plan_diff.l2 k y0 y1 y2 y3 y4 y5) (plan_diff.l2 (k + 1) y0 y1 y2 y3 y4 y5))
 | 0 => ⟨fun _ _ _ _ _ r h => by simp [plan_diff.l0] at h, fun _ _ _ _ _ r h => by simp [plan_diff.l1] at h, fun _ _ _ _ _ _ r h => by simp [plan_diff.l2] at h⟩
 | k + 1 => by
  obtain ⟨ih0, ih1, ih2⟩ := plan_diff.mono_l k
  refine ⟨?_, ?_, ?_⟩
  ·
   intro y0 y1 y2 y3 y4
   unfold plan_diff.l0
   repeat' (with_reducible first | exact ih0 _ _ _ _ _ | exact ih1 _ _ _ _ _ | exact ih2 _ _ _ _ _ _ | exact conf_Config_Find.mono _ _ _ | exact maps_Keys_map_string_int_string_int.mono _ _ _ _ | exact plan_same.mono _ _ _ _ _ _ _ _ _ _ _ _ _ _ _ | exact lR_ | refine LeO.ite ?_ ?_ | refine LeO.bind ?_ (fun _ => ?_))
  ·
   intro y0 y1 y2 y3 y4
   unfold plan_diff.l1
   repeat' (with_reducible first | exact ih0 _ _ _ _ _ | exact ih1 _ _ _ _ _ | exact ih2 _ _ _ _ _ _ | exact conf_Config_Find.mono _ _ _ | exact maps_Keys_map_string_int_string_int.mono _ _ _ _ | exact plan_same.mono _ _ _ _ _ _ _ _ _ _ _ _ _ _ _ | exact lR_ | refine LeO.ite ?_ ?_ | refine LeO.bind ?_ (fun _ => ?_))
  ·
   intro y0 y1 y2 y3 y4 y5
   unfold plan_diff.l2
   repeat' (with_reducible first | exact ih0 _ _ _ _ _ | exact ih1 _ _ _ _ _ | exact ih2 _ _ _ _ _ _ | exact conf_Config_Find.mono _ _ _ | exact maps_Keys_map_string_int_string_int.mono _ _ _ _ | exact plan_same.mono _ _ _ _ _ _ _ _ _ _ _ _ _ _ _ | exact lR_ | refine LeO.ite ?_ ?_ | refine LeO.bind ?_ (fun _ => ?_))
theorem plan_diff.mono : ∀ a0 a1 k, LeO (plan_diff.f k a0 a1) (plan_diff.f (k + 1) a0 a1) := by
 intro a0 a1 k
 obtain ⟨ih0, ih1, ih2⟩ := plan_diff.mono_l k
 unfold plan_diff.f
 repeat' (with_reducible first | exact ih0 _ _ _ _ _ | exact ih1 _ _ _ _ _ | exact ih2 _ _ _ _ _ _ | exact conf_Config_Find.mono _ _ _ | exact maps_Keys_map_string_int_string_int.mono _ _ _ _ | exact plan_same.mono _ _ _ _ _ _ _ _ _ _ _ _ _ _ _ | exact lR_ | refine LeO.ite ?_ ?_ | refine LeO.bind ?_ (fun _ => ?_))
set_option maxHeartbeats 8000000 in
set_option maxRecDepth 100000 in
theorem plan_diff.calls (k : Nat) (A0_0 : Option Addr) (c0_0 : Nat) (l0_0 : List (S57)) (A1_0 : Option Addr) (c1_0 : Nat) (l1_0 : List (S57)) (r : List (S40)) (w : World) (hr0_0 : Kd.C k57 w A0_0 l0_0.length l0_0) (hc0_0 : l0_0.length ≤ c0_0) (hr1_0 : Kd.C k57 w A1_0 l1_0.length l1_0) (hc1_0 : l1_0.length ≤ c1_0) (h : plan_diff.f k l0_0 l1_0 = some r) :
  Calls Tryz.prog 34 #[.agg #[.slice A0_0 l0_0.length c0_0], .agg #[.slice A1_0 l1_0.length c1_0]] w fun e w' => ∃ v0_ : Value, e = .returned (v0_) ∧ Kd.R k40 40 w' w.heap.size (fun _ => True) v0_ r ∧ Below w.heap.size w w' := by
 have hu24 := Tryz.underlying24
 have hu57 := Tryz.underlying57
 have hu40 := Tryz.underlying40
 have HR0_0 := Aside0.mk hr0_0
 have HC0_0 := Aside0.mk hc0_0
 clear hr0_0 hc0_0
 have HR1_0 := Aside0.mk hr1_0
 have HC1_0 := Aside0.mk hc1_0
 clear hr1_0 hc1_0
 have HB := Aside0.mk (Below.refl w.heap.size w)
 unfold plan_diff.f at h
 by_cases hok : hostsOk l0_0 l1_0 = true
 case neg => rw [if_neg hok] at h; cases h
 rw [if_pos hok] at h
 have HL0 : Aside0 (l0_0.length ≤ 100000) := ⟨by unfold hostsOk at hok; simp only [Bool.and_eq_true, decide_eq_true_eq] at hok; exact hok.1.1.1⟩
 have HL1 : Aside0 (l1_0.length ≤ 100000) := ⟨by unfold hostsOk at hok; simp only [Bool.and_eq_true, decide_eq_true_eq] at hok; exact hok.1.1.2⟩
 have HH0 : Aside0 (∀ i : Int, 0 ≤ i → i < (l0_0.length : Int) → (rd_T57 l0_0 i).f0.size ≤ 1000000) := ⟨fun i h0_ h1_ => by
  unfold hostsOk at hok
  simp only [Bool.and_eq_true] at hok
  obtain ⟨n, rfl⟩ := Int.eq_ofNat_of_zero_le h0_
  have hn : n < l0_0.length := by omega
  have e : rd_T57 l0_0 (n : Int) = l0_0[n] := by simp [rd_T57, hn]
  rw [e]
  exact of_decide_eq_true (List.all_eq_true.1 hok.1.2 _ (List.getElem_mem hn))⟩
 have HH1 : Aside0 (∀ i : Int, 0 ≤ i → i < (l1_0.length : Int) → (rd_T57 l1_0 i).f0.size ≤ 1000000) := ⟨fun i h0_ h1_ => by
  unfold hostsOk at hok
  simp only [Bool.and_eq_true] at hok
  obtain ⟨n, rfl⟩ := Int.eq_ofNat_of_zero_le h0_
  have hn : n < l1_0.length := by omega
  have e : rd_T57 l1_0 (n : Int) = l1_0[n] := by simp [rd_T57, hn]
  rw [e]
  exact of_decide_eq_true (List.all_eq_true.1 hok.2 _ (List.getElem_mem hn))⟩
 clear hok
 have H : (plan_diff.l0 k l0_0 (l0_0.length : Int) 0 l0_0 l1_0) = some r := h
 clear h
 have H' := Aside0.mk H
 clear H
 go_enter Tryz.func34, Tryz.ntmps34
 have hmm_ := @run_makeMap Tryz.prog
 go_wp2_with (first | ((with_reducible refine gate_dst (N := 2) rfl ?_); refine box_event ?hg (N := 2) ?hd (cs := #[.slice A0_0 l0_0.length c0_0]) (t := 24) ?hr ?_; (case hd | hg => rfl); (case hr => exact S1_); intro gb167 hg w3 hbox hb; have BK167 := Aside0.mk (hbox); have GW167 := Aside0.mk ((Z1_ : w.heap.size ≤ gb167)); have GE167 := Aside0.mk ((Z1_ : w.heap.size ≤ gb167)); replace HB := y1_ hb; clear hb hbox hg) | ((with_reducible refine gate_dst (N := 3) rfl ?_); refine box_event ?hg (N := 3) ?hd (cs := #[.slice A1_0 l1_0.length c1_0]) (t := 24) ?hr ?_; (case hd | hg => rfl); (case hr => exact S1_); intro gb168 hg w4 hbox hb; have BK168 := Aside0.mk (hbox); have GW168 := Aside0.mk ((Z2_ : w.heap.size ≤ gb168)); have GE168 := Aside0.mk ((Z2_ : w.heap.size ≤ gb168)); have NB167_168 := Aside0.mk ((by rw [hg]; exact Nat.ne_of_lt (blk_lt (B1_ BK167.out)) : gb167 ≠ gb168)); have NB168_167 := Aside0.mk ((by rw [hg]; exact Nat.ne_of_gt (blk_lt (B1_ BK167.out)) : gb168 ≠ gb167)); replace BK167 := yB_ BK167 hb; replace HB := y2_ hb; clear hb hbox hg; have hnb5 := NB167_168.out; have hnc5 := NB168_167.out; obtain ⟨z6_0, y6_0⟩ := cz1_ BK167.out; have hcm0_ : (w4.alloc (.map #[] 0)).cell? ⟨gb167, 0, none⟩ = some (.slice A0_0 l0_0.length c0_0) := (blk_cell (bA_ BK167.out _) 0).trans rfl; have hcm1_ : (w4.alloc (.map #[] 0)).cell? ⟨gb168, 0, none⟩ = some (.slice A1_0 l1_0.length c1_0) := (blk_cell (bA_ BK168.out _) 0).trans rfl; have hfm0_ := blk_frozen (bA_ BK167.out (.map #[] 0)) 0; have hfm1_ := blk_frozen (bA_ BK168.out (.map #[] 0)) 0))
 clear hmm_ hcm0_ hcm1_ hfm0_ hfm1_
 have HGM := Aside0.mk HB.out.size
 have HG0 := Aside0.mk (Nat.ne_of_lt (blk_lt BK167.out))
 have HG1 := Aside0.mk (Nat.ne_of_lt (blk_lt BK168.out))
 go_loopg [19] k (fun kq v19 w' => ∃ (x19_1 : Int), v19 = .int .i64 x19_1 ∧ Aside0 (plan_diff.l0 kq l0_0 (l0_0.length : Int) x19_1 l0_0 l1_0 = some r) ∧ Aside0 (kq ≤ k) ∧ Aside0 (w'.heap[gb167]? = some (.cells #[(.slice A0_0 l0_0.length c0_0)] 24 (0, 0))) ∧ Aside0 (w'.heap[gb168]? = some (.cells #[(.slice A1_0 l1_0.length c1_0)] 24 (0, 0))) ∧ Aside0 (KindsIs w' w4.heap.size (min x19_1.toNat 100000) (((l0_0.take x19_1.toNat).map fun s => (s.f0, (2 : Int))).reverse)) ∧ Aside0 (Below w.heap.size w w'))
 case atStart => exact ⟨(0), E3_, H', ⟨Nat.le_refl _⟩, ⟨B1_ BK167.out⟩, ⟨B1_ BK168.out⟩, ⟨kinds_made w4⟩, ⟨W2_⟩⟩
 case round =>
  clear H'
  (try clear z6_0 y6_0)
  obtain ⟨x19_1, rfl, HA, HK1, BK167, BK168, HKD, HB⟩ := hrel
  cases gk with
  | zero => exact absurd HA.out (by simp [plan_diff.l0])
  | succ k1 =>
   have H := HA.out
   clear HA
   simp only [plan_diff.l0] at H
   by_cases c7 : x19_1 < (l0_0.length : Int)
   ·
    rw [if_pos c7] at H
    have c7b0 : decide (x19_1 < (l0_0.length : Int)) = true := decide_eq_true c7
    clear c7
    by_cases c8 : 0 ≤ x19_1
    ·
     rw [if_pos c8] at H
     have c8b0 : decide (0 ≤ x19_1) = true := decide_eq_true c8
     clear c8
     by_cases c9 : x19_1 < (l0_0.length : Int)
     ·
      rw [if_pos c9] at H
      have c9b0 : decide (x19_1 < (l0_0.length : Int)) = true := decide_eq_true c9
      clear c9
      have H' := Aside0.mk H
      clear H
      have p169 : 0 ≤ (x19_1 : Int) := oA_
      have q169 : x19_1 < (l0_0.length : Int) := oA_
      obtain ⟨ad169, A169_6, c169_6, e169, hx169_0, hx169_1, hx169_2, hx169_3, hx169_4, hx169_5, hx169_6, hl169_6, hi169_6⟩ := at_T57 HR0_0.out x19_1 p169 q169
      cases e169
      replace hx169_0 := (HB.out.cell (World.block_lt_of_cell? w _ hx169_0)).trans hx169_0
      replace hx169_1 := (HB.out.cell (World.block_lt_of_cell? w _ hx169_1)).trans hx169_1
      replace hx169_2 := (HB.out.cell (World.block_lt_of_cell? w _ hx169_2)).trans hx169_2
      replace hx169_3 := (HB.out.cell (World.block_lt_of_cell? w _ hx169_3)).trans hx169_3
      replace hx169_4 := (HB.out.cell (World.block_lt_of_cell? w _ hx169_4)).trans hx169_4
      replace hx169_5 := (HB.out.cell (World.block_lt_of_cell? w _ hx169_5)).trans hx169_5
      replace hx169_6 := (HB.out.cell (World.block_lt_of_cell? w _ hx169_6)).trans hx169_6
      have HR169_6 := Aside0.mk hi169_6
      have HC169_6 := Aside0.mk hl169_6
      clear hi169_6 hl169_6
      replace p169 := eq_true p169
      replace q169 := eq_true q169
      obtain ⟨om, hm_, hall_⟩ := kinds_obj HKD.out
      have HM := Aside0.mk hm_
      have HALL := Aside0.mk hall_
      clear hm_ hall_ HKD
      go_wp2_with (first | ((with_reducible refine gate_dst (N := 7) rfl ?_); refine box_event ?hg (N := 7) ?hd (cs := #[.string (⟨#[]⟩ : ByteArray), .int .i64 0, .int .i64 0, .int .i64 0, .bool false, .bool false, .slice none 0 0]) (t := 57) ?hr ?_; (case hd | hg => rfl); (case hr => exact S1_); intro gb170 hg w10 hbox hb; have n0_ := Aside0.mk (blk_below (B1_ BK167.out) hb); have nm_ := Aside0.mk (blk_below (B1_ HM.out) hb); have nz_ := Aside0.mk ((by rw [hg]; exact Nat.ne_of_lt (blk_lt (B1_ HM.out)) : w4.heap.size ≠ gb170)); clear HM; have HM := nm_; have HMZ170 := nz_; clear nm_ nz_; have n1_ := Aside0.mk (blk_below (B1_ BK168.out) hb); have n2_ := Aside0.mk (below_step W2_ hb); have n3_ := Aside0.mk (hbox); have n4_ := Aside0.mk ((Z2_ : w.heap.size ≤ gb170)); have n5_ := Aside0.mk ((Z2_ : w.heap.size ≤ gb170)); have n6_ := Aside0.mk ((by rw [hg]; exact Nat.ne_of_lt (blk_lt (B1_ BK167.out)) : gb167 ≠ gb170)); have n7_ := Aside0.mk ((by rw [hg]; exact Nat.ne_of_gt (blk_lt (B1_ BK167.out)) : gb170 ≠ gb167)); have n8_ := Aside0.mk ((by rw [hg]; exact Nat.ne_of_lt (blk_lt (B1_ BK168.out)) : gb168 ≠ gb170)); have n9_ := Aside0.mk ((by rw [hg]; exact Nat.ne_of_gt (blk_lt (B1_ BK168.out)) : gb170 ≠ gb168)); clear BK167; clear BK168; clear HB; have BK167 := n0_; have BK168 := n1_; have HB := n2_; have BK170 := n3_; have GW170 := n4_; have GE170 := n5_; have NB167_170 := n6_; have NB170_167 := n7_; have NB168_170 := n8_; have NB170_168 := n9_; clear n0_ n1_ n2_ n3_ n4_ n5_ n6_ n7_ n8_ n9_; clear hb hbox hg; have hnb11 := NB170_167.out; have hnc11 := NB167_170.out; have hnb12 := NB170_168.out; have hnc12 := NB168_170.out; obtain ⟨z13_0, z13_1, z13_2, z13_3, z13_4, z13_5, z13_6, y13_0, y13_1, y13_2, y13_3, y13_4, y13_5, y13_6⟩ := cz7_ BK170.out) | (at_mapUpdate; refine wpList_update_kinds rfl _ _ _ 98 rfl Tryz.underlying98 w4.heap.size (min x19_1.toNat 100000) (((l0_0.take x19_1.toNat).map fun s => (s.f0, (2 : Int))).reverse) rfl (HALL.out _ (by refine B1_ ?_; refine obj_far_ ?_ HMZ170.out _; refine B1_ ?_; refine obj_far_ ?_ HMZ170.out _; refine B1_ ?_; refine obj_far_ ?_ HMZ170.out _; refine B1_ ?_; refine obj_far_ ?_ HMZ170.out _; refine B1_ ?_; refine obj_far_ ?_ HMZ170.out _; refine B1_ ?_; refine obj_far_ ?_ HMZ170.out _; refine B1_ ?_; refine obj_far_ ?_ HMZ170.out _; refine B1_ ?_; exact HM.out)) (show (min x19_1.toNat 100000) < maxLen from Nat.lt_of_le_of_lt (show _ ≤ 300000 by omega) (by decide)) _ rfl 2 rfl rfl (Nat.le_trans (HH0.out _ (of_decide_eq_true c8b0) (of_decide_eq_true c9b0)) (by decide)) ?_; intro w92 hsn_ hgr_; have nb0_ := Aside0.mk (blk_grown (g := gb167) (o := .cells #[.slice (some ad169) l0_0.length c0_0] 24 (0, 0)) (G1_ BK167.out) hgr_ (by intro e_; exact HG0.out (by simpa using e_))); have nb1_ := Aside0.mk (blk_grown (g := gb168) (o := .cells #[.slice A1_0 l1_0.length c1_0] 24 (0, 0)) (G1_ BK168.out) hgr_ (by intro e_; exact HG1.out (by simpa using e_))); have nh_ := Aside0.mk (grown_below W2_ hgr_ HGM.out); have HSN := Aside0.mk hsn_; clear BK167 BK168 HB HM hsn_ hgr_; have BK167 := nb0_; have BK168 := nb1_; have HB := nh_; clear nb0_ nb1_ nh_))
      go_roundg k1
      case measure => have := HK1.out; omega
      case rel => exact ⟨(wrap64 (x19_1 + 1)), E3_, H', ⟨by have := HK1.out; omega⟩, BK167, BK168, ⟨by have h1_ := HL0.out; have h2_ := of_decide_eq_true c9b0; have h3_ := of_decide_eq_true c8b0; have h9_ := HSN.out; obtain ⟨q_, rfl⟩ := Int.eq_ofNat_of_zero_le h3_; rw [show wrap64 ((q_ : Int) + 1) = ((q_ + 1 : Nat) : Int) by unfold wrap64; omega]; simp only [Int.toNat_natCast] at h9_ ⊢; rw [puts_stepA l0_0 q_ (by omega), show min (q_ + 1) 100000 = min q_ 100000 + 1 by omega]; exact h9_⟩, HB⟩
     ·
      rw [if_neg c9] at H
      exact absurd H (by simp)
    ·
     rw [if_neg c8] at H
     exact absurd H (by simp)
   ·
    rw [if_neg c7] at H
    have c7b0 : decide (x19_1 < (l0_0.length : Int)) = false := decide_eq_false c7
    clear c7
    have H' := Aside0.mk H
    clear H
    have hnb14 := NB168_167.out
    have hnc14 := NB167_168.out
    obtain ⟨z15_0, y15_0⟩ := cz1_ BK168.out
    go_wp2
    have HKE_ : Aside0 (KindsIs wr w4.heap.size (100000 + min (0 : Int).toNat 100000) (((l1_0.take (0 : Int).toNat).map fun s => (s.f0, (kindF k l0_0 s).getD 0)).reverse ++ putsA l0_0)) := ⟨by
     have h1_ := of_decide_eq_false c7b0
     have e_ : l0_0.take x19_1.toNat = l0_0 := List.take_of_length_le (by omega)
     have h4_ := HKD.out
     rw [e_] at h4_
     exact h4_.mono (by omega)⟩
    clear HKD
    go_loopg [30] k1 (fun kq v30 w' => ∃ (x30_2 : Int), v30 = .int .i64 x30_2 ∧ Aside0 (plan_diff.l1 kq l0_0 l1_0 (l1_0.length : Int) x30_2 l0_0 = some r) ∧ Aside0 (kq ≤ k1) ∧ Aside0 (w'.heap[gb167]? = some (.cells #[(.slice A0_0 l0_0.length c0_0)] 24 (0, 0))) ∧ Aside0 (w'.heap[gb168]? = some (.cells #[(.slice A1_0 l1_0.length c1_0)] 24 (0, 0))) ∧ Aside0 (KindsIs w' w4.heap.size (100000 + min x30_2.toNat 100000) (((l1_0.take x30_2.toNat).map fun s => (s.f0, (kindF k l0_0 s).getD 0)).reverse ++ putsA l0_0)) ∧ Aside0 (Below w.heap.size w w'))
    case atStart => exact ⟨(0), E3_, H', ⟨Nat.le_refl _⟩, ⟨B1_ BK167.out⟩, ⟨B1_ BK168.out⟩, HKE_, ⟨W2_⟩⟩
    case round =>
     clear H'
     (try clear c7); (try clear c7b0); (try clear c8); (try clear c8b0); (try clear c9); (try clear c9b0); (try clear z13_0 z13_1 z13_2 z13_3 z13_4 z13_5 z13_6 y13_0 y13_1 y13_2 y13_3 y13_4 y13_5 y13_6); (try clear z15_0 y15_0); (try clear z6_0 y6_0); (try clear hx169_0); (try clear hx169_1); (try clear hx169_2); (try clear hx169_3); (try clear hx169_4); (try clear hx169_5); (try clear hx169_6); (try clear p169); (try clear q169)
     obtain ⟨x30_2, rfl, HA, HK2, BK167, BK168, HKD, HB⟩ := hrel
     cases gk with
     | zero => exact absurd HA.out (by simp [plan_diff.l1])
     | succ k2 =>
      have H := HA.out
      clear HA
      simp only [plan_diff.l1] at H
      by_cases c16 : x30_2 < (l1_0.length : Int)
      ·
       rw [if_pos c16] at H
       have c16b0 : decide (x30_2 < (l1_0.length : Int)) = true := decide_eq_true c16
       clear c16
       by_cases c17 : 0 ≤ x30_2
       ·
        rw [if_pos c17] at H
        have c17b0 : decide (0 ≤ x30_2) = true := decide_eq_true c17
        clear c17
        by_cases c18 : x30_2 < (l1_0.length : Int)
        ·
         rw [if_pos c18] at H
         have c18b0 : decide (x30_2 < (l1_0.length : Int)) = true := decide_eq_true c18
         clear c18
         obtain ⟨⟨t173, t174, t175, t176, t177, t178, t179, t182⟩, A19, H⟩ := bS_ H
         try dsimp only at H
         by_cases c20 : t182 = true
         ·
          subst c20
          rw [if_pos rfl] at H
          obtain ⟨t184, A21, H⟩ := bS_ H
          try dsimp only at H
          by_cases c22 : t184 = true
          ·
           subst c22
           rw [if_pos rfl] at H
           have H' := Aside0.mk H
           clear H
           have p171 : 0 ≤ (x30_2 : Int) := oA_
           have q171 : x30_2 < (l1_0.length : Int) := oA_
           obtain ⟨ad171, A171_6, c171_6, e171, hx171_0, hx171_1, hx171_2, hx171_3, hx171_4, hx171_5, hx171_6, hl171_6, hi171_6⟩ := at_T57 HR1_0.out x30_2 p171 q171
           cases e171
           replace hx171_0 := (HB.out.cell (World.block_lt_of_cell? w _ hx171_0)).trans hx171_0
           replace hx171_1 := (HB.out.cell (World.block_lt_of_cell? w _ hx171_1)).trans hx171_1
           replace hx171_2 := (HB.out.cell (World.block_lt_of_cell? w _ hx171_2)).trans hx171_2
           replace hx171_3 := (HB.out.cell (World.block_lt_of_cell? w _ hx171_3)).trans hx171_3
           replace hx171_4 := (HB.out.cell (World.block_lt_of_cell? w _ hx171_4)).trans hx171_4
           replace hx171_5 := (HB.out.cell (World.block_lt_of_cell? w _ hx171_5)).trans hx171_5
           replace hx171_6 := (HB.out.cell (World.block_lt_of_cell? w _ hx171_6)).trans hx171_6
           have HR171_6 := Aside0.mk hi171_6
           have HC171_6 := Aside0.mk hl171_6
           clear hi171_6 hl171_6
           replace p171 := eq_true p171
           replace q171 := eq_true q171
           obtain ⟨om, hm_, hall_⟩ := kinds_obj HKD.out
           have HM := Aside0.mk hm_
           have HALL := Aside0.mk hall_
           clear hm_ hall_ HKD
           go_wp2_with (first | ((with_reducible refine gate_dst (N := 9) rfl ?_); refine box_event ?hg (N := 9) ?hd (cs := #[.string (⟨#[]⟩ : ByteArray), .int .i64 0, .int .i64 0, .int .i64 0, .bool false, .bool false, .slice none 0 0]) (t := 57) ?hr ?_; (case hd | hg => rfl); (case hr => exact S1_); intro gb172 hg w23 hbox hb; have n0_ := Aside0.mk (blk_below (B1_ BK167.out) hb); have nm_ := Aside0.mk (blk_below (B1_ HM.out) hb); have nz_ := Aside0.mk ((by rw [hg]; exact Nat.ne_of_lt (blk_lt (B1_ HM.out)) : w4.heap.size ≠ gb172)); clear HM; have HM := nm_; have HMZ172 := nz_; clear nm_ nz_; have n1_ := Aside0.mk (blk_below (B1_ BK168.out) hb); have n2_ := Aside0.mk (below_step W2_ hb); have n3_ := Aside0.mk (hbox); have n4_ := Aside0.mk ((Z2_ : w.heap.size ≤ gb172)); have n5_ := Aside0.mk ((Z2_ : w.heap.size ≤ gb172)); have n6_ := Aside0.mk ((by rw [hg]; exact Nat.ne_of_lt (blk_lt (B1_ BK167.out)) : gb167 ≠ gb172)); have n7_ := Aside0.mk ((by rw [hg]; exact Nat.ne_of_gt (blk_lt (B1_ BK167.out)) : gb172 ≠ gb167)); have n8_ := Aside0.mk ((by rw [hg]; exact Nat.ne_of_lt (blk_lt (B1_ BK168.out)) : gb168 ≠ gb172)); have n9_ := Aside0.mk ((by rw [hg]; exact Nat.ne_of_gt (blk_lt (B1_ BK168.out)) : gb172 ≠ gb168)); clear BK167; clear BK168; clear HB; have BK167 := n0_; have BK168 := n1_; have HB := n2_; have BK172 := n3_; have GW172 := n4_; have GE172 := n5_; have NB167_172 := n6_; have NB172_167 := n7_; have NB168_172 := n8_; have NB172_168 := n9_; clear n0_ n1_ n2_ n3_ n4_ n5_ n6_ n7_ n8_ n9_; clear hb hbox hg; have hnb24 := NB172_167.out; have hnc24 := NB167_172.out; have hnb25 := NB172_168.out; have hnc25 := NB168_172.out; obtain ⟨z26_0, z26_1, z26_2, z26_3, z26_4, z26_5, z26_6, y26_0, y26_1, y26_2, y26_3, y26_4, y26_5, y26_6⟩ := cz7_ BK172.out; have hnb27 := NB167_168.out; have hnc27 := NB168_167.out; obtain ⟨z28_0, y28_0⟩ := cz1_ BK167.out) | ((with_reducible refine gate_callee (f := 31) rfl ?_); refine goesL_ (some 38) rfl rfl Tryz.func31 (by kernel_rfl) rfl #[.agg #[.slice A0_0 l0_0.length c0_0], .string ((rd_T57 l1_0 x30_2).f0)] rfl T1_ ?_; (with_reducible refine (conf_Config_Find.calls k2 _ _ l0_0 ((rd_T57 l1_0 x30_2).f0) t173 t174 t175 t176 t177 t178 t179 true _ ?side1 ?side2 A19.out).mono ?_); (case side1 => exact Kd.C_below HR0_0.out W2_); (case side2 => exact HC0_0.out); rintro e w29 ⟨v180, rfl, ho0, hb⟩; refine ⟨_, rfl, ?_⟩; have n0_ := Aside0.mk (Kd.R_lower ho0 (below_size W2_)); have n1_ := Aside0.mk (blk_below (g := gb167) (o := .cells #[.slice A0_0 l0_0.length c0_0] 24 (0, 0)) (G1_ BK167.out) hb); have nm_ := Aside0.mk (blk_below (g := w4.heap.size) (o := om) (by refine B1_ ?_; refine obj_far_ ?_ HMZ172.out _; refine B1_ ?_; refine obj_far_ ?_ HMZ172.out _; refine B1_ ?_; refine obj_far_ ?_ HMZ172.out _; refine B1_ ?_; refine obj_far_ ?_ HMZ172.out _; refine B1_ ?_; refine obj_far_ ?_ HMZ172.out _; refine B1_ ?_; refine obj_far_ ?_ HMZ172.out _; refine B1_ ?_; refine obj_far_ ?_ HMZ172.out _; refine B1_ ?_; exact HM.out) hb); clear HM; have HM := nm_; clear nm_; have n2_ := Aside0.mk (blk_below (g := gb168) (o := .cells #[.slice (some ad171) l1_0.length c1_0] 24 (0, 0)) (G1_ BK168.out) hb); have n3_ := Aside0.mk (blk_below (g := gb172) (o := .cells #[.string ((rd_T57 l1_0 x30_2).f0), .int .i64 ((rd_T57 l1_0 x30_2).f1), .int .i64 ((rd_T57 l1_0 x30_2).f2), .int .i64 ((rd_T57 l1_0 x30_2).f3), .bool ((rd_T57 l1_0 x30_2).f4), .bool ((rd_T57 l1_0 x30_2).f5), .slice A171_6 ((rd_T57 l1_0 x30_2).f6).length c171_6] 57 (0, 0)) (G1_ BK172.out) hb); have n4_ := Aside0.mk (below_step W2_ hb); clear BK167; clear BK168; clear BK172; clear HB; have HO181 := n0_; have BK167 := n1_; have BK168 := n2_; have BK172 := n3_; have HB := n4_; clear n0_ n1_ n2_ n3_ n4_; (try clear hb); (try clear ho0)) | ((with_reducible refine gate_dst (N := 10) rfl ?_); refine box_event ?hg (N := 10) ?hd (cs := #[.string (⟨#[]⟩ : ByteArray), .int .i64 0, .int .i64 0, .int .i64 0, .bool false, .bool false, .slice none 0 0]) (t := 57) ?hr ?_; (case hd | hg => rfl); (case hr => exact S1_); intro gb183 hg w30 hbox hb; have n0_ := Aside0.mk (Kd.R_below (R1_ HO181.out) hb); have n1_ := Aside0.mk (blk_below (B1_ BK167.out) hb); have nm_ := Aside0.mk (blk_below (B1_ HM.out) hb); have nz_ := Aside0.mk ((by rw [hg]; exact Nat.ne_of_lt (blk_lt (B1_ HM.out)) : w4.heap.size ≠ gb183)); clear HM; have HM := nm_; have HMZ183 := nz_; clear nm_ nz_; have n2_ := Aside0.mk (blk_below (B1_ BK168.out) hb); have n3_ := Aside0.mk (blk_below (B1_ BK172.out) hb); have n4_ := Aside0.mk (below_step W2_ hb); have n5_ := Aside0.mk (hbox); have n6_ := Aside0.mk ((Z2_ : w.heap.size ≤ gb183)); have n7_ := Aside0.mk ((Z2_ : w.heap.size ≤ gb183)); have n8_ := Aside0.mk ((by rw [hg]; exact Nat.ne_of_lt (blk_lt (B1_ BK167.out)) : gb167 ≠ gb183)); have n9_ := Aside0.mk ((by rw [hg]; exact Nat.ne_of_gt (blk_lt (B1_ BK167.out)) : gb183 ≠ gb167)); have n10_ := Aside0.mk ((by rw [hg]; exact Nat.ne_of_lt (blk_lt (B1_ BK168.out)) : gb168 ≠ gb183)); have n11_ := Aside0.mk ((by rw [hg]; exact Nat.ne_of_gt (blk_lt (B1_ BK168.out)) : gb183 ≠ gb168)); have n12_ := Aside0.mk ((by rw [hg]; exact Nat.ne_of_lt (blk_lt (B1_ BK172.out)) : gb172 ≠ gb183)); have n13_ := Aside0.mk ((by rw [hg]; exact Nat.ne_of_gt (blk_lt (B1_ BK172.out)) : gb183 ≠ gb172)); clear HO181; clear BK167; clear BK168; clear BK172; clear HB; have HO181 := n0_; have BK167 := n1_; have BK168 := n2_; have BK172 := n3_; have HB := n4_; have BK183 := n5_; have GW183 := n6_; have GE183 := n7_; have NB167_183 := n8_; have NB183_167 := n9_; have NB168_183 := n10_; have NB183_168 := n11_; have NB172_183 := n12_; have NB183_172 := n13_; clear n0_ n1_ n2_ n3_ n4_ n5_ n6_ n7_ n8_ n9_ n10_ n11_ n12_ n13_; clear hb hbox hg; have hnb31 := NB183_167.out; have hnc31 := NB167_183.out; have hnb32 := NB183_168.out; have hnc32 := NB168_183.out; have hnb33 := NB183_172.out; have hnc33 := NB172_183.out; obtain ⟨z34_0, z34_1, z34_2, z34_3, z34_4, z34_5, z34_6, y34_0, y34_1, y34_2, y34_3, y34_4, y34_5, y34_6⟩ := cz7_ BK183.out; obtain ⟨Ao35, co35, eo35⟩ := Kd.R_slice HO181.out; subst eo35; obtain ⟨z36_0, z36_1, z36_2, z36_3, z36_4, z36_5, z36_6, y36_0, y36_1, y36_2, y36_3, y36_4, y36_5, y36_6⟩ := cz7_ BK172.out) | ((with_reducible refine gate_callee (f := 39) rfl ?_); refine goesL_ (some 53) rfl rfl Tryz.func39 (by kernel_rfl) rfl #[.agg #[.string t173, .int .i64 t174, .int .i64 t175, .int .i64 t176, .bool t177, .bool t178, .slice Ao35 t179.length co35], .agg #[.string ((rd_T57 l1_0 x30_2).f0), .int .i64 ((rd_T57 l1_0 x30_2).f1), .int .i64 ((rd_T57 l1_0 x30_2).f2), .int .i64 ((rd_T57 l1_0 x30_2).f3), .bool ((rd_T57 l1_0 x30_2).f4), .bool ((rd_T57 l1_0 x30_2).f5), .slice A171_6 ((rd_T57 l1_0 x30_2).f6).length c171_6]] rfl T1_ ?_; (with_reducible refine (plan_same.calls k2 t173 t174 t175 t176 t177 t178 _ _ t179 ((rd_T57 l1_0 x30_2).f0) ((rd_T57 l1_0 x30_2).f1) ((rd_T57 l1_0 x30_2).f2) ((rd_T57 l1_0 x30_2).f3) ((rd_T57 l1_0 x30_2).f4) ((rd_T57 l1_0 x30_2).f5) _ _ ((rd_T57 l1_0 x30_2).f6) true _ ?side1 ?side2 ?side3 ?side4 A21.out).mono ?_); (case side1 => refine (Kd.R_reads' (e := 9) (base := w.heap.size) (ok := fun k_ => True) (n := t179.length) (c := co35) ?_).2.2; exact (by refine R1_ ?_; exact (Kd.R_mono (Kd.R_far (p := ⟨gb183, 6, none⟩) (Kd.R_far (p := ⟨gb183, 5, none⟩) (Kd.R_far (p := ⟨gb183, 4, none⟩) (Kd.R_far (p := ⟨gb183, 3, none⟩) (Kd.R_far (p := ⟨gb183, 2, none⟩) (Kd.R_far (p := ⟨gb183, 1, none⟩) (Kd.R_far (p := ⟨gb183, 0, none⟩) (Kd.R_types HO181.out BK183.out (by decide)) (fun _ hk => hk.2) (.string t173)) (fun _ hk => hk.2) (.int .i64 t174)) (fun _ hk => hk.2) (.int .i64 t175)) (fun _ hk => hk.2) (.int .i64 t176)) (fun _ hk => hk.2) (.bool t177)) (fun _ hk => hk.2) (.bool t178)) (fun _ hk => hk.2) (.slice Ao35 t179.length co35)) (fun _ h_ => h_.1)))); (case side2 => exact (Kd.R_reads' HO181.out).2.1); (case side3 => exact Kd.C_below HR171_6.out W2_); (case side4 => exact HC171_6.out); rintro e w37 ⟨rfl, hb⟩; refine ⟨_, rfl, ?_⟩; have n0_ := Aside0.mk (Kd.R_below (by refine R1_ ?_; exact (Kd.R_mono (Kd.R_far (p := ⟨gb183, 6, none⟩) (Kd.R_far (p := ⟨gb183, 5, none⟩) (Kd.R_far (p := ⟨gb183, 4, none⟩) (Kd.R_far (p := ⟨gb183, 3, none⟩) (Kd.R_far (p := ⟨gb183, 2, none⟩) (Kd.R_far (p := ⟨gb183, 1, none⟩) (Kd.R_far (p := ⟨gb183, 0, none⟩) (Kd.R_types HO181.out BK183.out (by decide)) (fun _ hk => hk.2) (.string t173)) (fun _ hk => hk.2) (.int .i64 t174)) (fun _ hk => hk.2) (.int .i64 t175)) (fun _ hk => hk.2) (.int .i64 t176)) (fun _ hk => hk.2) (.bool t177)) (fun _ hk => hk.2) (.bool t178)) (fun _ hk => hk.2) (.slice Ao35 t179.length co35)) (fun _ h_ => h_.1))) hb); have n1_ := Aside0.mk (blk_below (g := gb167) (o := .cells #[.slice A0_0 l0_0.length c0_0] 24 (0, 0)) (G1_ BK167.out) hb); have nm_ := Aside0.mk (blk_below (g := w4.heap.size) (o := om) (by refine B1_ ?_; refine obj_far_ ?_ HMZ183.out _; refine B1_ ?_; refine obj_far_ ?_ HMZ183.out _; refine B1_ ?_; refine obj_far_ ?_ HMZ183.out _; refine B1_ ?_; refine obj_far_ ?_ HMZ183.out _; refine B1_ ?_; refine obj_far_ ?_ HMZ183.out _; refine B1_ ?_; refine obj_far_ ?_ HMZ183.out _; refine B1_ ?_; refine obj_far_ ?_ HMZ183.out _; refine B1_ ?_; exact HM.out) hb); clear HM; have HM := nm_; clear nm_; have n2_ := Aside0.mk (blk_below (g := gb168) (o := .cells #[.slice (some ad171) l1_0.length c1_0] 24 (0, 0)) (G1_ BK168.out) hb); have n3_ := Aside0.mk (blk_below (g := gb172) (o := .cells #[.string ((rd_T57 l1_0 x30_2).f0), .int .i64 ((rd_T57 l1_0 x30_2).f1), .int .i64 ((rd_T57 l1_0 x30_2).f2), .int .i64 ((rd_T57 l1_0 x30_2).f3), .bool ((rd_T57 l1_0 x30_2).f4), .bool ((rd_T57 l1_0 x30_2).f5), .slice A171_6 ((rd_T57 l1_0 x30_2).f6).length c171_6] 57 (0, 0)) (G1_ BK172.out) hb); have n4_ := Aside0.mk (blk_below (g := gb183) (o := .cells #[.string t173, .int .i64 t174, .int .i64 t175, .int .i64 t176, .bool t177, .bool t178, .slice Ao35 t179.length co35] 57 (0, 0)) (G1_ BK183.out) hb); have n5_ := Aside0.mk (below_step W2_ hb); clear HO181; clear BK167; clear BK168; clear BK172; clear BK183; clear HB; have HO181 := n0_; have BK167 := n1_; have BK168 := n2_; have BK172 := n3_; have BK183 := n4_; have HB := n5_; clear n0_ n1_ n2_ n3_ n4_ n5_; (try clear hb); (try clear hk); obtain ⟨z38_0, z38_1, z38_2, z38_3, z38_4, z38_5, z38_6, y38_0, y38_1, y38_2, y38_3, y38_4, y38_5, y38_6⟩ := cz7_ BK172.out) | (at_mapUpdate; refine wpList_update_kinds rfl _ _ _ 98 rfl Tryz.underlying98 w4.heap.size (100000 + min x30_2.toNat 100000) (((l1_0.take x30_2.toNat).map fun s => (s.f0, (kindF k l0_0 s).getD 0)).reverse ++ putsA l0_0) rfl (HALL.out _ (B1_ HM.out)) (show (100000 + min x30_2.toNat 100000) < maxLen from Nat.lt_of_le_of_lt (show _ ≤ 300000 by omega) (by decide)) _ rfl 0 rfl rfl (Nat.le_trans (HH1.out _ (of_decide_eq_true c17b0) (of_decide_eq_true c18b0)) (by decide)) ?_; intro w92 hsn_ hgr_; have nb0_ := Aside0.mk (blk_grown (g := gb167) (o := .cells #[.slice A0_0 l0_0.length c0_0] 24 (0, 0)) (B1_ BK167.out) hgr_ (by intro e_; exact HG0.out (by simpa using e_))); have nb1_ := Aside0.mk (blk_grown (g := gb168) (o := .cells #[.slice (some ad171) l1_0.length c1_0] 24 (0, 0)) (B1_ BK168.out) hgr_ (by intro e_; exact HG1.out (by simpa using e_))); have nh_ := Aside0.mk (grown_below W2_ hgr_ HGM.out); have HSN := Aside0.mk hsn_; clear BK167 BK168 HB HM hsn_ hgr_; have BK167 := nb0_; have BK168 := nb1_; have HB := nh_; clear nb0_ nb1_ nh_))
           go_roundg k2
           case measure => have := HK1.out; have := HK2.out; omega
           case rel => exact ⟨(wrap64 (x30_2 + 1)), E3_, H', ⟨by have := HK1.out; have := HK2.out; omega⟩, BK167, BK168, ⟨by have h1_ := HL1.out; have h2_ := of_decide_eq_true c18b0; have h3_ := of_decide_eq_true c17b0; have h4_ : kindF k l0_0 (rd_T57 l1_0 x30_2) = some 0 := kindF_le (k1 := k2) (by have h8_ := HK1.out; have h9_ := HK2.out; omega) (by unfold kindF; rw [A19.out]; simp only [Option.bind_some]; rw [if_pos trivial, A21.out]; rfl); have h9_ := HSN.out; obtain ⟨q_, rfl⟩ := Int.eq_ofNat_of_zero_le h3_; rw [show wrap64 ((q_ : Int) + 1) = ((q_ + 1 : Nat) : Int) by unfold wrap64; omega]; simp only [Int.toNat_natCast] at h9_ ⊢; rw [puts_stepB k l0_0 l1_0 q_ (by omega) h4_, show 100000 + min (q_ + 1) 100000 = 100000 + min q_ 100000 + 1 by omega]; exact h9_⟩, HB⟩
          ·
           replace c22 := Bool.eq_false_iff.mpr c22
           subst c22
           rw [if_neg (show ¬ (false = true) by decide)] at H
           have H' := Aside0.mk H
           clear H
           have p171 : 0 ≤ (x30_2 : Int) := oA_
           have q171 : x30_2 < (l1_0.length : Int) := oA_
           obtain ⟨ad171, A171_6, c171_6, e171, hx171_0, hx171_1, hx171_2, hx171_3, hx171_4, hx171_5, hx171_6, hl171_6, hi171_6⟩ := at_T57 HR1_0.out x30_2 p171 q171
           cases e171
           replace hx171_0 := (HB.out.cell (World.block_lt_of_cell? w _ hx171_0)).trans hx171_0
           replace hx171_1 := (HB.out.cell (World.block_lt_of_cell? w _ hx171_1)).trans hx171_1
           replace hx171_2 := (HB.out.cell (World.block_lt_of_cell? w _ hx171_2)).trans hx171_2
           replace hx171_3 := (HB.out.cell (World.block_lt_of_cell? w _ hx171_3)).trans hx171_3
           replace hx171_4 := (HB.out.cell (World.block_lt_of_cell? w _ hx171_4)).trans hx171_4
           replace hx171_5 := (HB.out.cell (World.block_lt_of_cell? w _ hx171_5)).trans hx171_5
           replace hx171_6 := (HB.out.cell (World.block_lt_of_cell? w _ hx171_6)).trans hx171_6
           have HR171_6 := Aside0.mk hi171_6
           have HC171_6 := Aside0.mk hl171_6
           clear hi171_6 hl171_6
           replace p171 := eq_true p171
           replace q171 := eq_true q171
           obtain ⟨om, hm_, hall_⟩ := kinds_obj HKD.out
           have HM := Aside0.mk hm_
           have HALL := Aside0.mk hall_
           clear hm_ hall_ HKD
           go_wp2_with (first | ((with_reducible refine gate_dst (N := 9) rfl ?_); refine box_event ?hg (N := 9) ?hd (cs := #[.string (⟨#[]⟩ : ByteArray), .int .i64 0, .int .i64 0, .int .i64 0, .bool false, .bool false, .slice none 0 0]) (t := 57) ?hr ?_; (case hd | hg => rfl); (case hr => exact S1_); intro gb172 hg w39 hbox hb; have n0_ := Aside0.mk (blk_below (B1_ BK167.out) hb); have nm_ := Aside0.mk (blk_below (B1_ HM.out) hb); have nz_ := Aside0.mk ((by rw [hg]; exact Nat.ne_of_lt (blk_lt (B1_ HM.out)) : w4.heap.size ≠ gb172)); clear HM; have HM := nm_; have HMZ172 := nz_; clear nm_ nz_; have n1_ := Aside0.mk (blk_below (B1_ BK168.out) hb); have n2_ := Aside0.mk (below_step W2_ hb); have n3_ := Aside0.mk (hbox); have n4_ := Aside0.mk ((Z2_ : w.heap.size ≤ gb172)); have n5_ := Aside0.mk ((Z2_ : w.heap.size ≤ gb172)); have n6_ := Aside0.mk ((by rw [hg]; exact Nat.ne_of_lt (blk_lt (B1_ BK167.out)) : gb167 ≠ gb172)); have n7_ := Aside0.mk ((by rw [hg]; exact Nat.ne_of_gt (blk_lt (B1_ BK167.out)) : gb172 ≠ gb167)); have n8_ := Aside0.mk ((by rw [hg]; exact Nat.ne_of_lt (blk_lt (B1_ BK168.out)) : gb168 ≠ gb172)); have n9_ := Aside0.mk ((by rw [hg]; exact Nat.ne_of_gt (blk_lt (B1_ BK168.out)) : gb172 ≠ gb168)); clear BK167; clear BK168; clear HB; have BK167 := n0_; have BK168 := n1_; have HB := n2_; have BK172 := n3_; have GW172 := n4_; have GE172 := n5_; have NB167_172 := n6_; have NB172_167 := n7_; have NB168_172 := n8_; have NB172_168 := n9_; clear n0_ n1_ n2_ n3_ n4_ n5_ n6_ n7_ n8_ n9_; clear hb hbox hg; have hnb40 := NB172_167.out; have hnc40 := NB167_172.out; have hnb41 := NB172_168.out; have hnc41 := NB168_172.out; obtain ⟨z42_0, z42_1, z42_2, z42_3, z42_4, z42_5, z42_6, y42_0, y42_1, y42_2, y42_3, y42_4, y42_5, y42_6⟩ := cz7_ BK172.out; have hnb43 := NB167_168.out; have hnc43 := NB168_167.out; obtain ⟨z44_0, y44_0⟩ := cz1_ BK167.out) | ((with_reducible refine gate_callee (f := 31) rfl ?_); refine goesL_ (some 38) rfl rfl Tryz.func31 (by kernel_rfl) rfl #[.agg #[.slice A0_0 l0_0.length c0_0], .string ((rd_T57 l1_0 x30_2).f0)] rfl T1_ ?_; (with_reducible refine (conf_Config_Find.calls k2 _ _ l0_0 ((rd_T57 l1_0 x30_2).f0) t173 t174 t175 t176 t177 t178 t179 true _ ?side1 ?side2 A19.out).mono ?_); (case side1 => exact Kd.C_below HR0_0.out W2_); (case side2 => exact HC0_0.out); rintro e w45 ⟨v180, rfl, ho0, hb⟩; refine ⟨_, rfl, ?_⟩; have n0_ := Aside0.mk (Kd.R_lower ho0 (below_size W2_)); have n1_ := Aside0.mk (blk_below (g := gb167) (o := .cells #[.slice A0_0 l0_0.length c0_0] 24 (0, 0)) (G1_ BK167.out) hb); have nm_ := Aside0.mk (blk_below (g := w4.heap.size) (o := om) (by refine B1_ ?_; refine obj_far_ ?_ HMZ172.out _; refine B1_ ?_; refine obj_far_ ?_ HMZ172.out _; refine B1_ ?_; refine obj_far_ ?_ HMZ172.out _; refine B1_ ?_; refine obj_far_ ?_ HMZ172.out _; refine B1_ ?_; refine obj_far_ ?_ HMZ172.out _; refine B1_ ?_; refine obj_far_ ?_ HMZ172.out _; refine B1_ ?_; refine obj_far_ ?_ HMZ172.out _; refine B1_ ?_; exact HM.out) hb); clear HM; have HM := nm_; clear nm_; have n2_ := Aside0.mk (blk_below (g := gb168) (o := .cells #[.slice (some ad171) l1_0.length c1_0] 24 (0, 0)) (G1_ BK168.out) hb); have n3_ := Aside0.mk (blk_below (g := gb172) (o := .cells #[.string ((rd_T57 l1_0 x30_2).f0), .int .i64 ((rd_T57 l1_0 x30_2).f1), .int .i64 ((rd_T57 l1_0 x30_2).f2), .int .i64 ((rd_T57 l1_0 x30_2).f3), .bool ((rd_T57 l1_0 x30_2).f4), .bool ((rd_T57 l1_0 x30_2).f5), .slice A171_6 ((rd_T57 l1_0 x30_2).f6).length c171_6] 57 (0, 0)) (G1_ BK172.out) hb); have n4_ := Aside0.mk (below_step W2_ hb); clear BK167; clear BK168; clear BK172; clear HB; have HO181 := n0_; have BK167 := n1_; have BK168 := n2_; have BK172 := n3_; have HB := n4_; clear n0_ n1_ n2_ n3_ n4_; (try clear hb); (try clear ho0)) | ((with_reducible refine gate_dst (N := 10) rfl ?_); refine box_event ?hg (N := 10) ?hd (cs := #[.string (⟨#[]⟩ : ByteArray), .int .i64 0, .int .i64 0, .int .i64 0, .bool false, .bool false, .slice none 0 0]) (t := 57) ?hr ?_; (case hd | hg => rfl); (case hr => exact S1_); intro gb183 hg w46 hbox hb; have n0_ := Aside0.mk (Kd.R_below (R1_ HO181.out) hb); have n1_ := Aside0.mk (blk_below (B1_ BK167.out) hb); have nm_ := Aside0.mk (blk_below (B1_ HM.out) hb); have nz_ := Aside0.mk ((by rw [hg]; exact Nat.ne_of_lt (blk_lt (B1_ HM.out)) : w4.heap.size ≠ gb183)); clear HM; have HM := nm_; have HMZ183 := nz_; clear nm_ nz_; have n2_ := Aside0.mk (blk_below (B1_ BK168.out) hb); have n3_ := Aside0.mk (blk_below (B1_ BK172.out) hb); have n4_ := Aside0.mk (below_step W2_ hb); have n5_ := Aside0.mk (hbox); have n6_ := Aside0.mk ((Z2_ : w.heap.size ≤ gb183)); have n7_ := Aside0.mk ((Z2_ : w.heap.size ≤ gb183)); have n8_ := Aside0.mk ((by rw [hg]; exact Nat.ne_of_lt (blk_lt (B1_ BK167.out)) : gb167 ≠ gb183)); have n9_ := Aside0.mk ((by rw [hg]; exact Nat.ne_of_gt (blk_lt (B1_ BK167.out)) : gb183 ≠ gb167)); have n10_ := Aside0.mk ((by rw [hg]; exact Nat.ne_of_lt (blk_lt (B1_ BK168.out)) : gb168 ≠ gb183)); have n11_ := Aside0.mk ((by rw [hg]; exact Nat.ne_of_gt (blk_lt (B1_ BK168.out)) : gb183 ≠ gb168)); have n12_ := Aside0.mk ((by rw [hg]; exact Nat.ne_of_lt (blk_lt (B1_ BK172.out)) : gb172 ≠ gb183)); have n13_ := Aside0.mk ((by rw [hg]; exact Nat.ne_of_gt (blk_lt (B1_ BK172.out)) : gb183 ≠ gb172)); clear HO181; clear BK167; clear BK168; clear BK172; clear HB; have HO181 := n0_; have BK167 := n1_; have BK168 := n2_; have BK172 := n3_; have HB := n4_; have BK183 := n5_; have GW183 := n6_; have GE183 := n7_; have NB167_183 := n8_; have NB183_167 := n9_; have NB168_183 := n10_; have NB183_168 := n11_; have NB172_183 := n12_; have NB183_172 := n13_; clear n0_ n1_ n2_ n3_ n4_ n5_ n6_ n7_ n8_ n9_ n10_ n11_ n12_ n13_; clear hb hbox hg; have hnb47 := NB183_167.out; have hnc47 := NB167_183.out; have hnb48 := NB183_168.out; have hnc48 := NB168_183.out; have hnb49 := NB183_172.out; have hnc49 := NB172_183.out; obtain ⟨z50_0, z50_1, z50_2, z50_3, z50_4, z50_5, z50_6, y50_0, y50_1, y50_2, y50_3, y50_4, y50_5, y50_6⟩ := cz7_ BK183.out; obtain ⟨Ao51, co51, eo51⟩ := Kd.R_slice HO181.out; subst eo51; obtain ⟨z52_0, z52_1, z52_2, z52_3, z52_4, z52_5, z52_6, y52_0, y52_1, y52_2, y52_3, y52_4, y52_5, y52_6⟩ := cz7_ BK172.out) | ((with_reducible refine gate_callee (f := 39) rfl ?_); refine goesL_ (some 53) rfl rfl Tryz.func39 (by kernel_rfl) rfl #[.agg #[.string t173, .int .i64 t174, .int .i64 t175, .int .i64 t176, .bool t177, .bool t178, .slice Ao51 t179.length co51], .agg #[.string ((rd_T57 l1_0 x30_2).f0), .int .i64 ((rd_T57 l1_0 x30_2).f1), .int .i64 ((rd_T57 l1_0 x30_2).f2), .int .i64 ((rd_T57 l1_0 x30_2).f3), .bool ((rd_T57 l1_0 x30_2).f4), .bool ((rd_T57 l1_0 x30_2).f5), .slice A171_6 ((rd_T57 l1_0 x30_2).f6).length c171_6]] rfl T1_ ?_; (with_reducible refine (plan_same.calls k2 t173 t174 t175 t176 t177 t178 _ _ t179 ((rd_T57 l1_0 x30_2).f0) ((rd_T57 l1_0 x30_2).f1) ((rd_T57 l1_0 x30_2).f2) ((rd_T57 l1_0 x30_2).f3) ((rd_T57 l1_0 x30_2).f4) ((rd_T57 l1_0 x30_2).f5) _ _ ((rd_T57 l1_0 x30_2).f6) false _ ?side1 ?side2 ?side3 ?side4 A21.out).mono ?_); (case side1 => refine (Kd.R_reads' (e := 9) (base := w.heap.size) (ok := fun k_ => True) (n := t179.length) (c := co51) ?_).2.2; exact (by refine R1_ ?_; exact (Kd.R_mono (Kd.R_far (p := ⟨gb183, 6, none⟩) (Kd.R_far (p := ⟨gb183, 5, none⟩) (Kd.R_far (p := ⟨gb183, 4, none⟩) (Kd.R_far (p := ⟨gb183, 3, none⟩) (Kd.R_far (p := ⟨gb183, 2, none⟩) (Kd.R_far (p := ⟨gb183, 1, none⟩) (Kd.R_far (p := ⟨gb183, 0, none⟩) (Kd.R_types HO181.out BK183.out (by decide)) (fun _ hk => hk.2) (.string t173)) (fun _ hk => hk.2) (.int .i64 t174)) (fun _ hk => hk.2) (.int .i64 t175)) (fun _ hk => hk.2) (.int .i64 t176)) (fun _ hk => hk.2) (.bool t177)) (fun _ hk => hk.2) (.bool t178)) (fun _ hk => hk.2) (.slice Ao51 t179.length co51)) (fun _ h_ => h_.1)))); (case side2 => exact (Kd.R_reads' HO181.out).2.1); (case side3 => exact Kd.C_below HR171_6.out W2_); (case side4 => exact HC171_6.out); rintro e w53 ⟨rfl, hb⟩; refine ⟨_, rfl, ?_⟩; have n0_ := Aside0.mk (Kd.R_below (by refine R1_ ?_; exact (Kd.R_mono (Kd.R_far (p := ⟨gb183, 6, none⟩) (Kd.R_far (p := ⟨gb183, 5, none⟩) (Kd.R_far (p := ⟨gb183, 4, none⟩) (Kd.R_far (p := ⟨gb183, 3, none⟩) (Kd.R_far (p := ⟨gb183, 2, none⟩) (Kd.R_far (p := ⟨gb183, 1, none⟩) (Kd.R_far (p := ⟨gb183, 0, none⟩) (Kd.R_types HO181.out BK183.out (by decide)) (fun _ hk => hk.2) (.string t173)) (fun _ hk => hk.2) (.int .i64 t174)) (fun _ hk => hk.2) (.int .i64 t175)) (fun _ hk => hk.2) (.int .i64 t176)) (fun _ hk => hk.2) (.bool t177)) (fun _ hk => hk.2) (.bool t178)) (fun _ hk => hk.2) (.slice Ao51 t179.length co51)) (fun _ h_ => h_.1))) hb); have n1_ := Aside0.mk (blk_below (g := gb167) (o := .cells #[.slice A0_0 l0_0.length c0_0] 24 (0, 0)) (G1_ BK167.out) hb); have nm_ := Aside0.mk (blk_below (g := w4.heap.size) (o := om) (by refine B1_ ?_; refine obj_far_ ?_ HMZ183.out _; refine B1_ ?_; refine obj_far_ ?_ HMZ183.out _; refine B1_ ?_; refine obj_far_ ?_ HMZ183.out _; refine B1_ ?_; refine obj_far_ ?_ HMZ183.out _; refine B1_ ?_; refine obj_far_ ?_ HMZ183.out _; refine B1_ ?_; refine obj_far_ ?_ HMZ183.out _; refine B1_ ?_; refine obj_far_ ?_ HMZ183.out _; refine B1_ ?_; exact HM.out) hb); clear HM; have HM := nm_; clear nm_; have n2_ := Aside0.mk (blk_below (g := gb168) (o := .cells #[.slice (some ad171) l1_0.length c1_0] 24 (0, 0)) (G1_ BK168.out) hb); have n3_ := Aside0.mk (blk_below (g := gb172) (o := .cells #[.string ((rd_T57 l1_0 x30_2).f0), .int .i64 ((rd_T57 l1_0 x30_2).f1), .int .i64 ((rd_T57 l1_0 x30_2).f2), .int .i64 ((rd_T57 l1_0 x30_2).f3), .bool ((rd_T57 l1_0 x30_2).f4), .bool ((rd_T57 l1_0 x30_2).f5), .slice A171_6 ((rd_T57 l1_0 x30_2).f6).length c171_6] 57 (0, 0)) (G1_ BK172.out) hb); have n4_ := Aside0.mk (blk_below (g := gb183) (o := .cells #[.string t173, .int .i64 t174, .int .i64 t175, .int .i64 t176, .bool t177, .bool t178, .slice Ao51 t179.length co51] 57 (0, 0)) (G1_ BK183.out) hb); have n5_ := Aside0.mk (below_step W2_ hb); clear HO181; clear BK167; clear BK168; clear BK172; clear BK183; clear HB; have HO181 := n0_; have BK167 := n1_; have BK168 := n2_; have BK172 := n3_; have BK183 := n4_; have HB := n5_; clear n0_ n1_ n2_ n3_ n4_ n5_; (try clear hb); (try clear hk); obtain ⟨z54_0, z54_1, z54_2, z54_3, z54_4, z54_5, z54_6, y54_0, y54_1, y54_2, y54_3, y54_4, y54_5, y54_6⟩ := cz7_ BK172.out) | (at_mapUpdate; refine wpList_update_kinds rfl _ _ _ 98 rfl Tryz.underlying98 w4.heap.size (100000 + min x30_2.toNat 100000) (((l1_0.take x30_2.toNat).map fun s => (s.f0, (kindF k l0_0 s).getD 0)).reverse ++ putsA l0_0) rfl (HALL.out _ (B1_ HM.out)) (show (100000 + min x30_2.toNat 100000) < maxLen from Nat.lt_of_le_of_lt (show _ ≤ 300000 by omega) (by decide)) _ rfl 1 rfl rfl (Nat.le_trans (HH1.out _ (of_decide_eq_true c17b0) (of_decide_eq_true c18b0)) (by decide)) ?_; intro w92 hsn_ hgr_; have nb0_ := Aside0.mk (blk_grown (g := gb167) (o := .cells #[.slice A0_0 l0_0.length c0_0] 24 (0, 0)) (B1_ BK167.out) hgr_ (by intro e_; exact HG0.out (by simpa using e_))); have nb1_ := Aside0.mk (blk_grown (g := gb168) (o := .cells #[.slice (some ad171) l1_0.length c1_0] 24 (0, 0)) (B1_ BK168.out) hgr_ (by intro e_; exact HG1.out (by simpa using e_))); have nh_ := Aside0.mk (grown_below W2_ hgr_ HGM.out); have HSN := Aside0.mk hsn_; clear BK167 BK168 HB HM hsn_ hgr_; have BK167 := nb0_; have BK168 := nb1_; have HB := nh_; clear nb0_ nb1_ nh_))
           go_roundg k2
           case measure => have := HK1.out; have := HK2.out; omega
           case rel => exact ⟨(wrap64 (x30_2 + 1)), E3_, H', ⟨by have := HK1.out; have := HK2.out; omega⟩, BK167, BK168, ⟨by have h1_ := HL1.out; have h2_ := of_decide_eq_true c18b0; have h3_ := of_decide_eq_true c17b0; have h4_ : kindF k l0_0 (rd_T57 l1_0 x30_2) = some 1 := kindF_le (k1 := k2) (by have h8_ := HK1.out; have h9_ := HK2.out; omega) (by unfold kindF; rw [A19.out]; simp only [Option.bind_some]; rw [if_pos trivial, A21.out]; rfl); have h9_ := HSN.out; obtain ⟨q_, rfl⟩ := Int.eq_ofNat_of_zero_le h3_; rw [show wrap64 ((q_ : Int) + 1) = ((q_ + 1 : Nat) : Int) by unfold wrap64; omega]; simp only [Int.toNat_natCast] at h9_ ⊢; rw [puts_stepB k l0_0 l1_0 q_ (by omega) h4_, show 100000 + min (q_ + 1) 100000 = 100000 + min q_ 100000 + 1 by omega]; exact h9_⟩, HB⟩
         ·
          replace c20 := Bool.eq_false_iff.mpr c20
          subst c20
          rw [if_neg (show ¬ (false = true) by decide)] at H
          have H' := Aside0.mk H
          clear H
          have p171 : 0 ≤ (x30_2 : Int) := oA_
          have q171 : x30_2 < (l1_0.length : Int) := oA_
          obtain ⟨ad171, A171_6, c171_6, e171, hx171_0, hx171_1, hx171_2, hx171_3, hx171_4, hx171_5, hx171_6, hl171_6, hi171_6⟩ := at_T57 HR1_0.out x30_2 p171 q171
          cases e171
          replace hx171_0 := (HB.out.cell (World.block_lt_of_cell? w _ hx171_0)).trans hx171_0
          replace hx171_1 := (HB.out.cell (World.block_lt_of_cell? w _ hx171_1)).trans hx171_1
          replace hx171_2 := (HB.out.cell (World.block_lt_of_cell? w _ hx171_2)).trans hx171_2
          replace hx171_3 := (HB.out.cell (World.block_lt_of_cell? w _ hx171_3)).trans hx171_3
          replace hx171_4 := (HB.out.cell (World.block_lt_of_cell? w _ hx171_4)).trans hx171_4
          replace hx171_5 := (HB.out.cell (World.block_lt_of_cell? w _ hx171_5)).trans hx171_5
          replace hx171_6 := (HB.out.cell (World.block_lt_of_cell? w _ hx171_6)).trans hx171_6
          have HR171_6 := Aside0.mk hi171_6
          have HC171_6 := Aside0.mk hl171_6
          clear hi171_6 hl171_6
          replace p171 := eq_true p171
          replace q171 := eq_true q171
          obtain ⟨om, hm_, hall_⟩ := kinds_obj HKD.out
          have HM := Aside0.mk hm_
          have HALL := Aside0.mk hall_
          clear hm_ hall_ HKD
          go_wp2_with (first | ((with_reducible refine gate_dst (N := 9) rfl ?_); refine box_event ?hg (N := 9) ?hd (cs := #[.string (⟨#[]⟩ : ByteArray), .int .i64 0, .int .i64 0, .int .i64 0, .bool false, .bool false, .slice none 0 0]) (t := 57) ?hr ?_; (case hd | hg => rfl); (case hr => exact S1_); intro gb172 hg w55 hbox hb; have n0_ := Aside0.mk (blk_below (B1_ BK167.out) hb); have nm_ := Aside0.mk (blk_below (B1_ HM.out) hb); have nz_ := Aside0.mk ((by rw [hg]; exact Nat.ne_of_lt (blk_lt (B1_ HM.out)) : w4.heap.size ≠ gb172)); clear HM; have HM := nm_; have HMZ172 := nz_; clear nm_ nz_; have n1_ := Aside0.mk (blk_below (B1_ BK168.out) hb); have n2_ := Aside0.mk (below_step W2_ hb); have n3_ := Aside0.mk (hbox); have n4_ := Aside0.mk ((Z2_ : w.heap.size ≤ gb172)); have n5_ := Aside0.mk ((Z2_ : w.heap.size ≤ gb172)); have n6_ := Aside0.mk ((by rw [hg]; exact Nat.ne_of_lt (blk_lt (B1_ BK167.out)) : gb167 ≠ gb172)); have n7_ := Aside0.mk ((by rw [hg]; exact Nat.ne_of_gt (blk_lt (B1_ BK167.out)) : gb172 ≠ gb167)); have n8_ := Aside0.mk ((by rw [hg]; exact Nat.ne_of_lt (blk_lt (B1_ BK168.out)) : gb168 ≠ gb172)); have n9_ := Aside0.mk ((by rw [hg]; exact Nat.ne_of_gt (blk_lt (B1_ BK168.out)) : gb172 ≠ gb168)); clear BK167; clear BK168; clear HB; have BK167 := n0_; have BK168 := n1_; have HB := n2_; have BK172 := n3_; have GW172 := n4_; have GE172 := n5_; have NB167_172 := n6_; have NB172_167 := n7_; have NB168_172 := n8_; have NB172_168 := n9_; clear n0_ n1_ n2_ n3_ n4_ n5_ n6_ n7_ n8_ n9_; clear hb hbox hg; have hnb56 := NB172_167.out; have hnc56 := NB167_172.out; have hnb57 := NB172_168.out; have hnc57 := NB168_172.out; obtain ⟨z58_0, z58_1, z58_2, z58_3, z58_4, z58_5, z58_6, y58_0, y58_1, y58_2, y58_3, y58_4, y58_5, y58_6⟩ := cz7_ BK172.out; have hnb59 := NB167_168.out; have hnc59 := NB168_167.out; obtain ⟨z60_0, y60_0⟩ := cz1_ BK167.out) | ((with_reducible refine gate_callee (f := 31) rfl ?_); refine goesL_ (some 38) rfl rfl Tryz.func31 (by kernel_rfl) rfl #[.agg #[.slice A0_0 l0_0.length c0_0], .string ((rd_T57 l1_0 x30_2).f0)] rfl T1_ ?_; (with_reducible refine (conf_Config_Find.calls k2 _ _ l0_0 ((rd_T57 l1_0 x30_2).f0) t173 t174 t175 t176 t177 t178 t179 false _ ?side1 ?side2 A19.out).mono ?_); (case side1 => exact Kd.C_below HR0_0.out W2_); (case side2 => exact HC0_0.out); rintro e w61 ⟨v180, rfl, ho0, hb⟩; refine ⟨_, rfl, ?_⟩; have n0_ := Aside0.mk (Kd.R_lower ho0 (below_size W2_)); have n1_ := Aside0.mk (blk_below (g := gb167) (o := .cells #[.slice A0_0 l0_0.length c0_0] 24 (0, 0)) (G1_ BK167.out) hb); have nm_ := Aside0.mk (blk_below (g := w4.heap.size) (o := om) (by refine B1_ ?_; refine obj_far_ ?_ HMZ172.out _; refine B1_ ?_; refine obj_far_ ?_ HMZ172.out _; refine B1_ ?_; refine obj_far_ ?_ HMZ172.out _; refine B1_ ?_; refine obj_far_ ?_ HMZ172.out _; refine B1_ ?_; refine obj_far_ ?_ HMZ172.out _; refine B1_ ?_; refine obj_far_ ?_ HMZ172.out _; refine B1_ ?_; refine obj_far_ ?_ HMZ172.out _; refine B1_ ?_; exact HM.out) hb); clear HM; have HM := nm_; clear nm_; have n2_ := Aside0.mk (blk_below (g := gb168) (o := .cells #[.slice (some ad171) l1_0.length c1_0] 24 (0, 0)) (G1_ BK168.out) hb); have n3_ := Aside0.mk (blk_below (g := gb172) (o := .cells #[.string ((rd_T57 l1_0 x30_2).f0), .int .i64 ((rd_T57 l1_0 x30_2).f1), .int .i64 ((rd_T57 l1_0 x30_2).f2), .int .i64 ((rd_T57 l1_0 x30_2).f3), .bool ((rd_T57 l1_0 x30_2).f4), .bool ((rd_T57 l1_0 x30_2).f5), .slice A171_6 ((rd_T57 l1_0 x30_2).f6).length c171_6] 57 (0, 0)) (G1_ BK172.out) hb); have n4_ := Aside0.mk (below_step W2_ hb); clear BK167; clear BK168; clear BK172; clear HB; have HO181 := n0_; have BK167 := n1_; have BK168 := n2_; have BK172 := n3_; have HB := n4_; clear n0_ n1_ n2_ n3_ n4_; (try clear hb); (try clear ho0)) | ((with_reducible refine gate_dst (N := 10) rfl ?_); refine box_event ?hg (N := 10) ?hd (cs := #[.string (⟨#[]⟩ : ByteArray), .int .i64 0, .int .i64 0, .int .i64 0, .bool false, .bool false, .slice none 0 0]) (t := 57) ?hr ?_; (case hd | hg => rfl); (case hr => exact S1_); intro gb183 hg w62 hbox hb; have n0_ := Aside0.mk (Kd.R_below (R1_ HO181.out) hb); have n1_ := Aside0.mk (blk_below (B1_ BK167.out) hb); have nm_ := Aside0.mk (blk_below (B1_ HM.out) hb); have nz_ := Aside0.mk ((by rw [hg]; exact Nat.ne_of_lt (blk_lt (B1_ HM.out)) : w4.heap.size ≠ gb183)); clear HM; have HM := nm_; have HMZ183 := nz_; clear nm_ nz_; have n2_ := Aside0.mk (blk_below (B1_ BK168.out) hb); have n3_ := Aside0.mk (blk_below (B1_ BK172.out) hb); have n4_ := Aside0.mk (below_step W2_ hb); have n5_ := Aside0.mk (hbox); have n6_ := Aside0.mk ((Z2_ : w.heap.size ≤ gb183)); have n7_ := Aside0.mk ((Z2_ : w.heap.size ≤ gb183)); have n8_ := Aside0.mk ((by rw [hg]; exact Nat.ne_of_lt (blk_lt (B1_ BK167.out)) : gb167 ≠ gb183)); have n9_ := Aside0.mk ((by rw [hg]; exact Nat.ne_of_gt (blk_lt (B1_ BK167.out)) : gb183 ≠ gb167)); have n10_ := Aside0.mk ((by rw [hg]; exact Nat.ne_of_lt (blk_lt (B1_ BK168.out)) : gb168 ≠ gb183)); have n11_ := Aside0.mk ((by rw [hg]; exact Nat.ne_of_gt (blk_lt (B1_ BK168.out)) : gb183 ≠ gb168)); have n12_ := Aside0.mk ((by rw [hg]; exact Nat.ne_of_lt (blk_lt (B1_ BK172.out)) : gb172 ≠ gb183)); have n13_ := Aside0.mk ((by rw [hg]; exact Nat.ne_of_gt (blk_lt (B1_ BK172.out)) : gb183 ≠ gb172)); clear HO181; clear BK167; clear BK168; clear BK172; clear HB; have HO181 := n0_; have BK167 := n1_; have BK168 := n2_; have BK172 := n3_; have HB := n4_; have BK183 := n5_; have GW183 := n6_; have GE183 := n7_; have NB167_183 := n8_; have NB183_167 := n9_; have NB168_183 := n10_; have NB183_168 := n11_; have NB172_183 := n12_; have NB183_172 := n13_; clear n0_ n1_ n2_ n3_ n4_ n5_ n6_ n7_ n8_ n9_ n10_ n11_ n12_ n13_; clear hb hbox hg; have hnb63 := NB183_167.out; have hnc63 := NB167_183.out; have hnb64 := NB183_168.out; have hnc64 := NB168_183.out; have hnb65 := NB183_172.out; have hnc65 := NB172_183.out; obtain ⟨z66_0, z66_1, z66_2, z66_3, z66_4, z66_5, z66_6, y66_0, y66_1, y66_2, y66_3, y66_4, y66_5, y66_6⟩ := cz7_ BK183.out; obtain ⟨Ao67, co67, eo67⟩ := Kd.R_slice HO181.out; subst eo67; obtain ⟨z68_0, z68_1, z68_2, z68_3, z68_4, z68_5, z68_6, y68_0, y68_1, y68_2, y68_3, y68_4, y68_5, y68_6⟩ := cz7_ BK172.out) | (at_mapUpdate; refine wpList_update_kinds rfl _ _ _ 98 rfl Tryz.underlying98 w4.heap.size (100000 + min x30_2.toNat 100000) (((l1_0.take x30_2.toNat).map fun s => (s.f0, (kindF k l0_0 s).getD 0)).reverse ++ putsA l0_0) rfl (HALL.out _ (by refine B1_ ?_; refine obj_far_ ?_ HMZ183.out _; refine B1_ ?_; refine obj_far_ ?_ HMZ183.out _; refine B1_ ?_; refine obj_far_ ?_ HMZ183.out _; refine B1_ ?_; refine obj_far_ ?_ HMZ183.out _; refine B1_ ?_; refine obj_far_ ?_ HMZ183.out _; refine B1_ ?_; refine obj_far_ ?_ HMZ183.out _; refine B1_ ?_; refine obj_far_ ?_ HMZ183.out _; refine B1_ ?_; exact HM.out)) (show (100000 + min x30_2.toNat 100000) < maxLen from Nat.lt_of_le_of_lt (show _ ≤ 300000 by omega) (by decide)) _ rfl 3 rfl rfl (Nat.le_trans (HH1.out _ (of_decide_eq_true c17b0) (of_decide_eq_true c18b0)) (by decide)) ?_; intro w92 hsn_ hgr_; have nb0_ := Aside0.mk (blk_grown (g := gb167) (o := .cells #[.slice A0_0 l0_0.length c0_0] 24 (0, 0)) (G1_ BK167.out) hgr_ (by intro e_; exact HG0.out (by simpa using e_))); have nb1_ := Aside0.mk (blk_grown (g := gb168) (o := .cells #[.slice (some ad171) l1_0.length c1_0] 24 (0, 0)) (G1_ BK168.out) hgr_ (by intro e_; exact HG1.out (by simpa using e_))); have nh_ := Aside0.mk (grown_below W2_ hgr_ HGM.out); have HSN := Aside0.mk hsn_; clear BK167 BK168 HB HM hsn_ hgr_; have BK167 := nb0_; have BK168 := nb1_; have HB := nh_; clear nb0_ nb1_ nh_))
          go_roundg k2
          case measure => have := HK1.out; have := HK2.out; omega
          case rel => exact ⟨(wrap64 (x30_2 + 1)), E3_, H', ⟨by have := HK1.out; have := HK2.out; omega⟩, BK167, BK168, ⟨by have h1_ := HL1.out; have h2_ := of_decide_eq_true c18b0; have h3_ := of_decide_eq_true c17b0; have h4_ : kindF k l0_0 (rd_T57 l1_0 x30_2) = some 3 := kindF_le (k1 := k2) (by have h8_ := HK1.out; have h9_ := HK2.out; omega) (by unfold kindF; rw [A19.out]; simp only [Option.bind_some]; rw [if_neg (by simp)]); have h9_ := HSN.out; obtain ⟨q_, rfl⟩ := Int.eq_ofNat_of_zero_le h3_; rw [show wrap64 ((q_ : Int) + 1) = ((q_ + 1 : Nat) : Int) by unfold wrap64; omega]; simp only [Int.toNat_natCast] at h9_ ⊢; rw [puts_stepB k l0_0 l1_0 q_ (by omega) h4_, show 100000 + min (q_ + 1) 100000 = 100000 + min q_ 100000 + 1 by omega]; exact h9_⟩, HB⟩
        ·
         rw [if_neg c18] at H
         exact absurd H (by simp)
       ·
        rw [if_neg c17] at H
        exact absurd H (by simp)
      ·
       rw [if_neg c16] at H
       have c16b0 : decide (x30_2 < (l1_0.length : Int)) = false := decide_eq_false c16
       clear c16
       obtain ⟨t185, A69, H⟩ := bS_ H
       try dsimp only at H
       have H' := Aside0.mk H
       clear H
       have HKS1_ : Aside0 (KindsIs wr w4.heap.size 200000 (putsB k l0_0 l1_0)) := ⟨by
        have h1_ := of_decide_eq_false c16b0
        have e_ : l1_0.take x30_2.toNat = l1_0 := List.take_of_length_le (by omega)
        have h4_ := HKD.out
        rw [e_] at h4_
        exact h4_.mono (by omega)⟩
       clear HKD
       obtain ⟨om, hm_, hall_⟩ := kinds_obj HKS1_.out
       have HM := Aside0.mk hm_
       have HALL := Aside0.mk hall_
       clear hm_ hall_
       have H185_ : Aside0 (t185 = (hostsL l0_0 l1_0).map fun b => ⟨b.toArray⟩) := ⟨(Option.some.inj A69.out).symm⟩
       go_wp2_with (first | ((with_reducible refine gate_callee (f := 46) rfl ?_); refine goesL_ (some 59) rfl rfl Tryz.func46 (by kernel_rfl) rfl #[.map (some w4.heap.size)] rfl (by (try simp only [mA_, mC_, mN_]); first | done | rfl) ?_; (with_reducible refine (kinds_keys (some w4.heap.size) _).mono ?_); rintro e w93 ⟨rfl, rfl⟩; refine ⟨_, rfl, ?_⟩) | ((with_reducible refine gate_callee (f := 45) rfl ?_); refine goesL_ (some 60) rfl rfl Tryz.func45 (by kernel_rfl) rfl #[.func (.func 65) #[] #[.pointer (some ⟨wr.heap.size, 0, none⟩)]] rfl T1_ ?_; refine (kinds_sorted w4.heap.size 200000 (putsB k l0_0 l1_0) wr HKS1_.out (Nat.le_refl _)).mono ?_; rintro e w70 ⟨v186, rfl, ho0, hb⟩; rw [hosts_puts, ← H185_.out] at ho0; refine ⟨_, rfl, ?_⟩; have nk_ := Aside0.mk (KindsIs.below (HALL.out _ (B1_ HM.out)) hb); have HO187 := Aside0.mk (Kd.R_lower ho0 (below_size W2_)); replace BK167 := yB_ BK167 hb; replace BK168 := yB_ BK168 hb; replace HB := y2_ hb; (try clear hb); (try clear ho0); clear HM HALL HKS1_; have HKS_ := nk_; clear nk_; obtain ⟨Ao71, co71, eo71⟩ := Kd.R_slice HO187.out; subst eo71))
       go_loopg [12, 62] k2 (fun kq v12 v62 w' => ∃ (x12_3 : List (S40)) (x62_3 : Int), v62 = .int .i64 x62_3 ∧ Aside0 (plan_diff.l2 kq x12_3 l0_0 l1_0 t185 (t185.length : Int) x62_3 = some r) ∧ Aside0 (kq ≤ k2) ∧ Aside0 (Kd.R k40 40 w' w.heap.size (fun _ => True) v12 x12_3) ∧ Aside0 (Kd.R Kd.string 9 w' w.heap.size (fun _ => True) (.slice Ao71 t185.length co71) t185) ∧ Aside0 (w'.heap[gb167]? = some (.cells #[(.slice A0_0 l0_0.length c0_0)] 24 (0, 0))) ∧ Aside0 (w'.heap[gb168]? = some (.cells #[(.slice A1_0 l1_0.length c1_0)] 24 (0, 0))) ∧ Aside0 (KindsIs w' w4.heap.size 200000 (putsB k l0_0 l1_0)) ∧ Aside0 (Below w.heap.size w w'))
       case atStart => exact ⟨(([] : List (S40))), (0), E3_, H', ⟨Nat.le_refl _⟩, ⟨by first | exact Kd.R_nil _ _ _ _ _ | exact Kd.N_nil _ _ _ _ _ | exact Kd.V_nil _ _ _ _ _ | exact Kd.Q_nil _ _ _ _ _ | exact Kd.S_nil _ _ _ _ _⟩, ⟨R1_ HO187.out⟩, ⟨B1_ BK167.out⟩, ⟨B1_ BK168.out⟩, HKS_, ⟨W2_⟩⟩
       case round =>
        clear H'
        (try clear c7); (try clear c7b0); (try clear c8); (try clear c8b0); (try clear c9); (try clear c9b0); (try clear c16); (try clear c16b0); (try clear c17); (try clear c17b0); (try clear c18); (try clear c18b0); (try clear c20); (try clear c22); (try clear z13_0 z13_1 z13_2 z13_3 z13_4 z13_5 z13_6 y13_0 y13_1 y13_2 y13_3 y13_4 y13_5 y13_6); (try clear z15_0 y15_0); (try clear z26_0 z26_1 z26_2 z26_3 z26_4 z26_5 z26_6 y26_0 y26_1 y26_2 y26_3 y26_4 y26_5 y26_6); (try clear z28_0 y28_0); (try clear z34_0 z34_1 z34_2 z34_3 z34_4 z34_5 z34_6 y34_0 y34_1 y34_2 y34_3 y34_4 y34_5 y34_6); (try clear z36_0 z36_1 z36_2 z36_3 z36_4 z36_5 z36_6 y36_0 y36_1 y36_2 y36_3 y36_4 y36_5 y36_6); (try clear z38_0 z38_1 z38_2 z38_3 z38_4 z38_5 z38_6 y38_0 y38_1 y38_2 y38_3 y38_4 y38_5 y38_6); (try clear z42_0 z42_1 z42_2 z42_3 z42_4 z42_5 z42_6 y42_0 y42_1 y42_2 y42_3 y42_4 y42_5 y42_6); (try clear z44_0 y44_0); (try clear z50_0 z50_1 z50_2 z50_3 z50_4 z50_5 z50_6 y50_0 y50_1 y50_2 y50_3 y50_4 y50_5 y50_6); (try clear z52_0 z52_1 z52_2 z52_3 z52_4 z52_5 z52_6 y52_0 y52_1 y52_2 y52_3 y52_4 y52_5 y52_6); (try clear z54_0 z54_1 z54_2 z54_3 z54_4 z54_5 z54_6 y54_0 y54_1 y54_2 y54_3 y54_4 y54_5 y54_6); (try clear z58_0 z58_1 z58_2 z58_3 z58_4 z58_5 z58_6 y58_0 y58_1 y58_2 y58_3 y58_4 y58_5 y58_6); (try clear z60_0 y60_0); (try clear z66_0 z66_1 z66_2 z66_3 z66_4 z66_5 z66_6 y66_0 y66_1 y66_2 y66_3 y66_4 y66_5 y66_6); (try clear z68_0 z68_1 z68_2 z68_3 z68_4 z68_5 z68_6 y68_0 y68_1 y68_2 y68_3 y68_4 y68_5 y68_6); (try clear z6_0 y6_0); (try clear hx169_0); (try clear hx169_1); (try clear hx169_2); (try clear hx169_3); (try clear hx169_4); (try clear hx169_5); (try clear hx169_6); (try clear hx171_0); (try clear hx171_1); (try clear hx171_2); (try clear hx171_3); (try clear hx171_4); (try clear hx171_5); (try clear hx171_6); (try clear p169); (try clear p171); (try clear q169); (try clear q171)
        obtain ⟨x12_3, x62_3, rfl, HA, HK3, HO_12, HO_60, BK167, BK168, HKD, HB⟩ := hrel
        cases gk with
        | zero => exact absurd HA.out (by simp [plan_diff.l2])
        | succ k3 =>
         have H := HA.out
         clear HA
         simp only [plan_diff.l2] at H
         by_cases c72 : x62_3 < (t185.length : Int)
         ·
          rw [if_pos c72] at H
          have c72b0 : decide (x62_3 < (t185.length : Int)) = true := decide_eq_true c72
          clear c72
          by_cases c73 : 0 ≤ x62_3
          ·
           rw [if_pos c73] at H
           have c73b0 : decide (0 ≤ x62_3) = true := decide_eq_true c73
           clear c73
           by_cases c74 : x62_3 < (t185.length : Int)
           ·
            rw [if_pos c74] at H
            have c74b0 : decide (x62_3 < (t185.length : Int)) = true := decide_eq_true c74
            clear c74
            obtain ⟨t189, A75, H⟩ := bS_ H
            try dsimp only at H
            by_cases c76 : x12_3.length < 5864062014805
            ·
             rw [if_pos c76] at H
             have LMc76 := Aside0.mk c76
             clear c76
             obtain ⟨y190, hy190⟩ : ∃ y_ : List (S40), y_ = (x12_3 ++ [(⟨t189, rdOf ByteArray.empty t185 x62_3⟩ : S40)]) := ⟨_, rfl⟩
             replace H : (plan_diff.l2 k3 y190 l0_0 l1_0 t185 (t185.length : Int) (wrap64 (x62_3 + 1))) = some r := by first | (rw [hy190]; with_reducible exact H) | (have H2_ := (Option.bind_some _ _).symm.trans H; rw [hy190]; with_reducible exact H2_) | (have H2_ := (Option.bind_some _ _).symm.trans H; with_reducible exact H2_) | with_reducible exact H | (rw [hy190]; exact H) | exact H
             have Ny190 := Aside0.mk hy190
             clear hy190
             have H' := Aside0.mk H
             clear H
             have p188 : 0 ≤ (x62_3 : Int) := oA_
             have q188 : x62_3 < (t185.length : Int) := oA_
             obtain ⟨ad188, e188, hx188_0⟩ := Kd.at_string (Kd.R_reads' HO_60.out).2.2 x62_3 p188 q188
             cases e188
             replace p188 := eq_true p188
             replace q188 := eq_true q188
             have h75_ := A75.out
             unfold maps_Keys_map_string_int_string_int.f at h75_
             by_cases hc_ : (l1_0.all fun s => (kindF k3 l0_0 s).isSome) = true ∧ (rdOf ByteArray.empty t185 x62_3).size ≤ 1000000
             case neg => rw [if_neg hc_] at h75_; cases h75_
             rw [if_pos hc_] at h75_
             have hlv_ := Option.some.inj h75_
             rw [putsB_le (show k3 ≤ k by have h1_ := HK1.out; have h2_ := HK2.out; have h3_ := HK3.out; omega) hc_.1] at hlv_
             have HSZ_ := Aside0.mk hc_.2
             have HLV_ := Aside0.mk hlv_
             clear h75_ hc_ hlv_
             have HNE_ := Aside0.mk (kinds_apart HKD.out HO_12.out)
             obtain ⟨om, hm_, hall_⟩ := kinds_obj HKD.out
             have HM := Aside0.mk hm_
             have HALL := Aside0.mk hall_
             clear hm_ hall_
             go_wp2_with (first | (at_lookup; refine wpList_lookup_kinds rfl _ _ 98 rfl Tryz.underlying98 w4.heap.size 200000 (putsB k l0_0 l1_0) rfl HKD.out _ rfl (Nat.le_trans HSZ_.out (by decide)) ?_; rw [HLV_.out]) | ((with_reducible refine gate_builtin (b := .append) (xs := #[.tmp 66, .tmp 72]) rfl ?_); at_builtin; refine Kd.R_append k40 (w0 := w) w.heap.size rfl (.tmp 66) (.tmp 72) 27 40 (.agg #[(.int .i64 0), (.string ⟨#[]⟩)]) 24 rfl Tryz.underlying27 info40 rfl (by decide) (by omega) u12 x12_3 (⟨t189, rdOf ByteArray.empty t185 x62_3⟩ : S40) [.int .i64 t189, .string (rdOf ByteArray.empty t185 x62_3)] (fun _ => True) (fun _ => False) rfl rfl ?aP (fun _ hk => hk.elim) ?aF ?aO ?aB ?aS ?aL ?_; (case aP => exact k40_mkM _ _ _ (⟨t189, rdOf ByteArray.empty t185 x62_3⟩ : S40)); (case aB => exact W2_); (case aF => exact (fun _ _ => trivial)); (case aO => exact (R1_ HO_12.out)); (case aS => exact (below_size W2_)); (case aL => have := LMc76.out; omega); intro v191 w78 ho hb hg hat; have nk_ := Aside0.mk (KindsIs.grown (HALL.out _ (B1_ HM.out)) hg HNE_.out); clear HM HALL HNE_ HKD; have HKD := nk_; clear nk_; rw [← Ny190.out] at ho; have n0_ := Aside0.mk (Kd.R_over' (R1_ HO_60.out) (Kd.R_typed (R1_ HO_12.out)) (by decide) hg); have n1_ := Aside0.mk (blk_grown (g := gb167) (o := .cells #[.slice A0_0 l0_0.length c0_0] 24 (0, 0)) (B1_ BK167.out) hg (Kd.R_ne HO_12.out BK167.out (by decide))); have n2_ := Aside0.mk (blk_grown (g := gb168) (o := .cells #[.slice A1_0 l1_0.length c1_0] 24 (0, 0)) (B1_ BK168.out) hg (Kd.R_ne HO_12.out BK168.out (by decide))); have n3_ := Aside0.mk (hb); have n4_ := Aside0.mk (ho); clear HO_60; clear BK167; clear BK168; clear HB; clear HO_12; have HO_60 := n0_; have BK167 := n1_; have BK168 := n2_; have HB := n3_; have HO192 := n4_; clear n0_ n1_ n2_ n3_ n4_; clear ho hb hg hat))
             go_roundg k3
             case measure => have := HK1.out; have := HK2.out; have := HK3.out; omega
             case rel => exact ⟨(y190), (wrap64 (x62_3 + 1)), E3_, H', ⟨by have := HK1.out; have := HK2.out; have := HK3.out; omega⟩, ⟨R1_ HO192.out⟩, ⟨R1_ HO_60.out⟩, ⟨B1_ BK167.out⟩, ⟨B1_ BK168.out⟩, HKD, ⟨W2_⟩⟩
            ·
             rw [if_neg c76] at H
             exact absurd H (by simp)
           ·
            rw [if_neg c74] at H
            exact absurd H (by simp)
          ·
           rw [if_neg c73] at H
           exact absurd H (by simp)
         ·
          rw [if_neg c72] at H
          have c72b0 : decide (x62_3 < (t185.length : Int)) = false := decide_eq_false c72
          clear c72
          obtain rfl := Option.some.inj H
          go_wp2
          go_ret
          exact ⟨_, E1_, by refine R1_ ?_; exact HO_12.out, W2_⟩

end Go.Proofs.YtlncpbnadlpihaaGreatDoor.PAll
