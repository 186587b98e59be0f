import Derived.Test.YtfcifigemiafgaaDoorPAllx0
import Derived.Test.YtfcifigemiafgaaDoorPAllx12
namespace Go.Proofs.YtfcifigemiafgaaDoor.PAll
open Go.RowKit Go.Proofs.YtfcifigemiafgaaDoorW.PrintWords Go.Proofs.YtfcifigemiafgaaDoorW.PrintLast Go.Proofs.YtfcifigemiafgaaDoorW.PrintMore
attribute [local go_sem] max2_int min2_int max_two min_two max_three min_three max_four min_four   -- for this text's walks alone
set_option linter.unusedVariables false
set_option linter.unusedSimpArgs false

/-! ### pantrymade_Config: function 11 -/
def pantrymade_Config.l0 : Nat → List (S29) → Int → Int → List (S38) → Option ((List (S38)))
 | 0, _, _, _, _ => none
 | k + 1, x7, x8, x9, x166000 => if x9 < x8 then (if 0 ≤ x9 then (if x9 < (x7.length : Int) then ((pantrymade_Site.f ((rd_T29 x7 x9).f0) ((rd_T29 x7 x9).f1) ((rd_T29 x7 x9).f2) ((rd_T29 x7 x9).f3) ((rd_T29 x7 x9).f4) ((rd_T29 x7 x9).f5) ((rd_T29 x7 x9).f6)).bind fun bt168 => (if x166000.length < 1954687338268 then (pantrymade_Config.l0 k x7 x8 (wrap64 (x9 + 1)) (x166000 ++ [(⟨bt168.1, bt168.2.1, bt168.2.2.1, bt168.2.2.2.1, bt168.2.2.2.2.1, bt168.2.2.2.2.2.1, bt168.2.2.2.2.2.2⟩ : S38)])) else (none))) else (none)) else (none)) else (some x166000)
def pantrymade_Config.f (k : Nat) (l0_0 : List (S29)) : Option ((List (S38))) := pantrymade_Config.l0 k l0_0 (l0_0.length : Int) 0 ([] : List (S38))
theorem pantrymade_Config.mono_l : ∀ k, (∀ y0 y1 y2 y3, LeO (pantrymade_Config.l0 k y0 y1 y2 y3) (pantrymade_Config.l0 (k + 1) y0 y1 y2 y3))
 | 0 => fun _ _ _ _ r h => by simp [pantrymade_Config.l0] at h
 | k + 1 => by
  have ih0 := pantrymade_Config.mono_l k
  ·
   intro y0 y1 y2 y3
   unfold pantrymade_Config.l0
   repeat' (with_reducible first | exact ih0 _ _ _ _ | exact lR_ | refine LeO.ite ?_ ?_ | refine LeO.bind ?_ (fun _ => ?_))
theorem pantrymade_Config.mono : ∀ a0 k, LeO (pantrymade_Config.f k a0) (pantrymade_Config.f (k + 1) a0) := by
 intro a0 k
 have ih0 := pantrymade_Config.mono_l k
 unfold pantrymade_Config.f
 repeat' (with_reducible first | exact ih0 _ _ _ _ | exact lR_ | refine LeO.ite ?_ ?_ | refine LeO.bind ?_ (fun _ => ?_))
def pantrymade_Config.T5 : Bool × List (List Nat × List Nat) := (true, [([], []), ([0], [0]), ([], []), ([2], [2]), ([3], [3]), ([1, 4, 3], [1, 4]), ([0, 1, 2, 3, 4, 5], []), ([6, 5, 5, 0, 1, 2, 3, 4, 5], [5, 6])])
def pantrymade_Config.B5 : List Nat := [0, 1, 0, 4, 12, 31, 63, 127]
theorem pantrymade_Config.tab5 : rtab .any (opsOf Tryd.f11 5) = pantrymade_Config.T5 := by kernel_rfl
theorem pantrymade_Config.bits5 : waitsOk pantrymade_Config.T5.2 pantrymade_Config.B5 = true := by kernel_rfl
set_option maxHeartbeats 8000000 in
set_option maxRecDepth 100000 in
theorem pantrymade_Config.calls (k : Nat) (P0_0_ : Nat → Prop) (A0_0 : Option Addr) (c0_0 : Nat) (l0_0 : List (S29)) (r : List (S38)) (w : World) (hs0_0 : Kd.V k29 29 w w.heap.size (fun k_ => P0_0_ k_) (.slice A0_0 l0_0.length c0_0) l0_0) (h : pantrymade_Config.f k l0_0 = some r) :
  Calls Tryd.prog 11 #[.agg #[.slice A0_0 l0_0.length c0_0]] w fun e w' => ∃ v0_ : Value, e = .returned (.agg #[v0_]) ∧ Kd.N k38 38 w' w.heap.size (fun k_ => (P0_0_ k_ ∨ w.heap.size ≤ k_)) v0_ r ∧ Below w.heap.size w w' := by
 have hu24 := Tryd.underlying24
 have hu34 := Tryd.underlying34
 have hu29 := Tryd.underlying29
 have HO0_0 := Aside0.mk (show Kd.V k29 29 w w.heap.size (fun k_ => (P0_0_ k_ ∨ w.heap.size ≤ k_)) (.slice A0_0 l0_0.length c0_0) l0_0 from Kd.V_mono hs0_0 (fun k_ hk => .inl hk))
 have HB := Aside0.mk (Below.refl w.heap.size w)
 have H : (pantrymade_Config.l0 k l0_0 (l0_0.length : Int) 0 ([] : List (S38))) = some r := h
 clear h
 have H' := Aside0.mk H
 clear H
 go_enter Tryd.func11, Tryd.ntmps11
 go_wp2_with (first | ((with_reducible refine gate_dst (N := 1) rfl ?_); refine box_event ?hg (N := 1) ?hd (cs := #[.slice A0_0 l0_0.length c0_0]) (t := 24) ?hr ?_; (case hd | hg => rfl); (case hr => exact S1_); intro gb163 hg w2 hbox hb; have BK163 := Aside0.mk (hbox); have GW163 := Aside0.mk ((Z1_ : w.heap.size ≤ gb163)); have GE163 := Aside0.mk ((Z1_ : w.heap.size ≤ gb163)); replace HO0_0 := Aside0.mk (Kd.V_below (Kd.V_elderB (by (with_reducible repeat (first | apply Kd.V_alloc | apply Kd.V_drewN | apply Kd.V_drew)); exact HO0_0.out) gb163 (Nat.le_of_eq hg.symm)) hb); replace HB := y1_ hb; clear hb hbox hg) | ((with_reducible refine gate_dst (N := 2) rfl ?_); refine box_event ?hg (N := 2) ?hd (cs := #[.slice none 0 0]) (t := 34) ?hr ?_; (case hd | hg => rfl); (case hr => exact S1_); intro gb164 hg w3 hbox hb; have BK164 := Aside0.mk (hbox); have GW164 := Aside0.mk ((Z2_ : w.heap.size ≤ gb164)); have GE164 := Aside0.mk ((Z2_ : w.heap.size ≤ gb164)); have NB163_164 := Aside0.mk ((by rw [hg]; exact Nat.ne_of_lt (blk_lt (B1_ BK163.out)) : gb163 ≠ gb164)); have NB164_163 := Aside0.mk ((by rw [hg]; exact Nat.ne_of_gt (blk_lt (B1_ BK163.out)) : gb164 ≠ gb163)); replace HO0_0 := Aside0.mk (Kd.V_below (Kd.V_elderB (by (with_reducible repeat (first | apply Kd.V_alloc | apply Kd.V_drewN | apply Kd.V_drew)); exact HO0_0.out) gb164 (Nat.le_of_eq hg.symm)) hb); replace BK163 := yB_ BK163 hb; replace HB := y2_ hb; clear hb hbox hg) | ((with_reducible refine gate_dst (N := 3) rfl ?_); refine box_event ?hg (N := 3) ?hd (cs := #[.slice none 0 0]) (t := 34) ?hr ?_; (case hd | hg => rfl); (case hr => exact S1_); intro gb165 hg w4 hbox hb; have BK165 := Aside0.mk (hbox); have GW165 := Aside0.mk ((Z2_ : w.heap.size ≤ gb165)); have GE165 := Aside0.mk ((Z2_ : w.heap.size ≤ gb165)); have NB163_165 := Aside0.mk ((by rw [hg]; exact Nat.ne_of_lt (blk_lt (B1_ BK163.out)) : gb163 ≠ gb165)); have NB165_163 := Aside0.mk ((by rw [hg]; exact Nat.ne_of_gt (blk_lt (B1_ BK163.out)) : gb165 ≠ gb163)); have NB164_165 := Aside0.mk ((by rw [hg]; exact Nat.ne_of_lt (blk_lt (B1_ BK164.out)) : gb164 ≠ gb165)); have NB165_164 := Aside0.mk ((by rw [hg]; exact Nat.ne_of_gt (blk_lt (B1_ BK164.out)) : gb165 ≠ gb164)); replace HO0_0 := Aside0.mk (Kd.V_below (Kd.V_elderB (by (with_reducible repeat (first | apply Kd.V_alloc | apply Kd.V_drewN | apply Kd.V_drew)); exact HO0_0.out) gb165 (Nat.le_of_eq hg.symm)) hb); replace BK163 := yB_ BK163 hb; replace BK164 := yB_ BK164 hb; replace HB := y2_ hb; clear hb hbox hg; have hnb5 := NB163_164.out; have hnc5 := NB164_163.out; have hnb6 := NB163_165.out; have hnc6 := NB165_163.out; obtain ⟨z7_0, y7_0⟩ := cz1_ BK163.out))
 go_loopg [9] k (fun kq v9 w' => ∃ (x9_1 : Int) (x166000_1 : List (S38)) (u166000 : Value), v9 = .int .i64 x9_1 ∧ Aside0 (pantrymade_Config.l0 kq l0_0 (l0_0.length : Int) x9_1 x166000_1 = some r) ∧ Aside0 (kq ≤ k) ∧ Aside0 (Kd.V k29 29 w' w.heap.size (fun k_ => (P0_0_ k_ ∨ w.heap.size ≤ k_) ∧ some k_ ≠ (u166000 : Value).ownBlock ∧ k_ ≠ gb163 ∧ k_ ≠ gb164 ∧ k_ ≠ gb165) (.slice A0_0 l0_0.length c0_0) l0_0) ∧ Aside0 (Kd.V k29 29 w' w.heap.size (fun k_ => (P0_0_ k_ ∨ w.heap.size ≤ k_) ∧ some k_ ≠ (u166000 : Value).ownBlock ∧ k_ ≠ gb163 ∧ k_ ≠ gb164 ∧ k_ ≠ gb165) (.slice A0_0 l0_0.length c0_0) l0_0) ∧ Aside0 (Kd.N k38 38 w' w.heap.size (fun k_ => (P0_0_ k_ ∨ w.heap.size ≤ k_) ∧ k_ ≠ gb163 ∧ k_ ≠ gb164 ∧ k_ ≠ gb165) u166000 x166000_1) ∧ Aside0 (w'.heap[gb163]? = some (.cells #[(.slice A0_0 l0_0.length c0_0)] 24 (0, 0))) ∧ Aside0 (w'.heap[gb164]? = some (.cells #[(.slice none 0 0)] 34 (0, 0))) ∧ Aside0 (w'.heap[gb165]? = some (.cells #[u166000] 34 (0, 0))) ∧ Aside0 (Below w.heap.size w w'))
 case atStart => exact ⟨(0), (([] : List (S38))), (.slice none 0 0), E3_, H', ⟨Nat.le_refl _⟩, ⟨by (with_reducible repeat (first | apply Kd.V_alloc | apply Kd.V_drewN | apply Kd.V_drew)); exact Kd.V_mono HO0_0.out (fun _ hk => ⟨hk.1.1.1, ⟨(by simp [Value.ownBlock]), ⟨hk.1.1.2, ⟨hk.1.2, hk.2⟩⟩⟩⟩)⟩, ⟨by (with_reducible repeat (first | apply Kd.V_alloc | apply Kd.V_drewN | apply Kd.V_drew)); exact Kd.V_mono HO0_0.out (fun _ hk => ⟨hk.1.1.1, ⟨(by simp [Value.ownBlock]), ⟨hk.1.1.2, ⟨hk.1.2, hk.2⟩⟩⟩⟩)⟩, ⟨by first | exact Kd.S_nil _ _ _ _ _ | exact Kd.N_nil _ _ _ _ _ | exact Kd.V_nil _ _ _ _ _ | exact Kd.Q_nil _ _ _ _ _ | exact Kd.R_nil _ _ _ _ _⟩, ⟨B1_ BK163.out⟩, ⟨B1_ BK164.out⟩, ⟨B1_ BK165.out⟩, ⟨W2_⟩⟩
 case round =>
  clear H'
  (try clear z7_0 y7_0)
  obtain ⟨x9_1, x166000_1, u166000, rfl, HA, HK1, HO_7, HO_164000, HO_166000, BK163, BK164, BK165, HB⟩ := hrel
  cases gk with
  | zero => exact absurd HA.out (by simp [pantrymade_Config.l0])
  | succ k1 =>
   have H := HA.out
   clear HA
   simp only [pantrymade_Config.l0] at H
   by_cases c8 : x9_1 < (l0_0.length : Int)
   ·
    rw [if_pos c8] at H
    have c8b0 : decide (x9_1 < (l0_0.length : Int)) = true := decide_eq_true c8
    clear c8
    by_cases c9 : 0 ≤ x9_1
    ·
     rw [if_pos c9] at H
     have c9b0 : decide (0 ≤ x9_1) = true := decide_eq_true c9
     clear c9
     by_cases c10 : x9_1 < (l0_0.length : Int)
     ·
      rw [if_pos c10] at H
      have c10b0 : decide (x9_1 < (l0_0.length : Int)) = true := decide_eq_true c10
      clear c10
      obtain ⟨⟨t168, t169, t170, t171, t172, t173, t174⟩, A11, H⟩ := bS_ H
      try dsimp only at H
      by_cases c12 : x166000_1.length < 1954687338268
      ·
       rw [if_pos c12] at H
       have LMc12 := Aside0.mk c12
       clear c12
       obtain ⟨y177, hy177⟩ : ∃ y_ : List (S38), y_ = (x166000_1 ++ [(⟨t168, t169, t170, t171, t172, t173, t174⟩ : S38)]) := ⟨_, rfl⟩
       replace H : (pantrymade_Config.l0 k1 l0_0 (l0_0.length : Int) (wrap64 (x9_1 + 1)) y177) = some r := by first | (rw [hy177]; with_reducible exact H) | (have H2_ := (Option.bind_some _ _).symm.trans H; rw [hy177]; with_reducible exact H2_) | (have H2_ := (Option.bind_some _ _).symm.trans H; with_reducible exact H2_) | with_reducible exact H | (rw [hy177]; exact H) | exact H
       have Ny177 := Aside0.mk hy177
       clear hy177
       have H' := Aside0.mk H
       clear H
       have p166 : 0 ≤ (x9_1 : Int) := oA_
       have q166 : x9_1 < (l0_0.length : Int) := oA_
       obtain ⟨ad166, A166_6, c166_6, e166, hx166_0, hx166_1, hx166_2, hx166_3, hx166_4, hx166_5, hx166_6, hl166_6, hi166_6⟩ := at_T29 (Kd.V_reads' HO_7.out).2.2 x9_1 p166 q166
       cases e166
       obtain ⟨ce166, hce166, hMe166, hcc166⟩ := Kd.V_get HO_7.out z29 x9_1 p166 (by first | exact q166 | exact oA_ | (have e_ := (Kd.V_reads' HO_7.out).1; omega))
       obtain ⟨ua166_6, uc166_6, rfl, ul166_6, ge166_6⟩ := k29_openF hMe166
       have hv166_6 := hcc166 6 _ rfl
       rw [add_field _ _ 6 (by omega)] at hv166_6
       replace hv166_6 := Option.some.inj (hv166_6.symm.trans hx166_6)
       injection hv166_6 with hva_ hvn_ hvc_
       rw [hva_] at ge166_6
       rw [hvc_] at ul166_6
       have HL166_6 := Aside0.mk (show Kd.V Kd.string 9 _ w.heap.size _ _ ((rd_T29 l0_0 x9_1).f6) from Kd.V_mk ul166_6 ge166_6)
       clear hva_ hvn_ hvc_ ge166_6 ul166_6
       clear hcc166 hce166
       have HR166_6 := Aside0.mk hi166_6
       have HC166_6 := Aside0.mk hl166_6
       clear hi166_6 hl166_6
       replace p166 := eq_true p166
       replace q166 := eq_true q166
       try go_wp2_with (first | ((with_reducible refine gate_dst (N := 5) rfl ?_); refine box_event ?hg (N := 5) ?hd (cs := #[.string (⟨#[]⟩ : ByteArray), .int .i64 0, .int .i64 0, .int .i64 0, .bool false, .bool false, .slice none 0 0]) (t := 29) ?hr ?_; (case hd | hg => rfl); (case hr => exact S1_); intro gb167 hg w13 hbox hb; have BK167 := Aside0.mk (hbox); have GW167 := Aside0.mk ((Z2_ : w.heap.size ≤ gb167)); have GE167 := Aside0.mk ((Z2_ : w.heap.size ≤ gb167)); have NB163_167 := Aside0.mk ((by rw [hg]; exact Nat.ne_of_lt (blk_lt (B1_ BK163.out)) : gb163 ≠ gb167)); have NB167_163 := Aside0.mk ((by rw [hg]; exact Nat.ne_of_gt (blk_lt (B1_ BK163.out)) : gb167 ≠ gb163)); have NB164_167 := Aside0.mk ((by rw [hg]; exact Nat.ne_of_lt (blk_lt (B1_ BK164.out)) : gb164 ≠ gb167)); have NB167_164 := Aside0.mk ((by rw [hg]; exact Nat.ne_of_gt (blk_lt (B1_ BK164.out)) : gb167 ≠ gb164)); have NB165_167 := Aside0.mk ((by rw [hg]; exact Nat.ne_of_lt (blk_lt (B1_ BK165.out)) : gb165 ≠ gb167)); have NB167_165 := Aside0.mk ((by rw [hg]; exact Nat.ne_of_gt (blk_lt (B1_ BK165.out)) : gb167 ≠ gb165)); replace HO_7 := Aside0.mk (Kd.V_below (Kd.V_elderB (by (with_reducible repeat (first | apply Kd.V_alloc | apply Kd.V_drewN | apply Kd.V_drew)); exact HO_7.out) gb167 (Nat.le_of_eq hg.symm)) hb); replace HO_164000 := Aside0.mk (Kd.V_below (Kd.V_elderB (by (with_reducible repeat (first | apply Kd.V_alloc | apply Kd.V_drewN | apply Kd.V_drew)); exact HO_164000.out) gb167 (Nat.le_of_eq hg.symm)) hb); replace HO_166000 := Aside0.mk (Kd.N_below (Kd.N_elderB (by (with_reducible repeat (first | apply Kd.N_alloc | apply Kd.N_drewN | apply Kd.N_drew)); exact HO_166000.out) gb167 (Nat.le_of_eq hg.symm)) hb); replace HL166_6 := Aside0.mk (Kd.V_below (Kd.V_elderB (by (with_reducible repeat (first | apply Kd.V_alloc | apply Kd.V_drewN | apply Kd.V_drew)); exact HL166_6.out) gb167 (Nat.le_of_eq hg.symm)) hb); replace BK163 := yB_ BK163 hb; replace BK164 := yB_ BK164 hb; replace BK165 := yB_ BK165 hb; replace HR166_6 := Aside0.mk (Kd.C_below (by repeat (first | (with_reducible exact HR166_6.out) | (with_reducible refine Kd.C_alloc ?_ _) | (with_reducible refine Kd.C_drewN ?_ _) | (with_reducible refine Kd.C_drew ?_) | exact HR166_6.out)) hb); replace HB := y2_ hb; clear hb hbox hg; have hnb14 := NB167_163.out; have hnc14 := NB163_167.out; have hnb15 := NB167_164.out; have hnc15 := NB164_167.out; have hnb16 := NB167_165.out; have hnc16 := NB165_167.out; obtain ⟨z17_0, z17_1, z17_2, z17_3, z17_4, z17_5, z17_6, y17_0, y17_1, y17_2, y17_3, y17_4, y17_5, y17_6⟩ := cz7_ BK167.out))
       have n0_ : Aside0 (Kd.V k29 29 (((((((w13.setCell ⟨gb167, 0, none⟩ (.string ((rd_T29 l0_0 x9_1).f0))).setCell ⟨gb167, 1, none⟩ (.int .i64 ((rd_T29 l0_0 x9_1).f1))).setCell ⟨gb167, 2, none⟩ (.int .i64 ((rd_T29 l0_0 x9_1).f2))).setCell ⟨gb167, 3, none⟩ (.int .i64 ((rd_T29 l0_0 x9_1).f3))).setCell ⟨gb167, 4, none⟩ (.bool ((rd_T29 l0_0 x9_1).f4))).setCell ⟨gb167, 5, none⟩ (.bool ((rd_T29 l0_0 x9_1).f5))).setCell ⟨gb167, 6, none⟩ (.slice A166_6 ((rd_T29 l0_0 x9_1).f6).length c166_6)) w.heap.size (fun k_ => (P0_0_ k_ ∨ w.heap.size ≤ k_) ∧ some k_ ≠ (u166000 : Value).ownBlock ∧ k_ ≠ gb163 ∧ k_ ≠ gb164 ∧ k_ ≠ gb165 ∧ k_ ≠ gb167) (.slice (some ad166) l0_0.length c0_0) l0_0) := ⟨by (with_reducible repeat (first | apply Kd.V_alloc | apply Kd.V_drewN | apply Kd.V_drew)); exact Kd.V_mono (Kd.V_far (p := ⟨gb167, 6, none⟩) (Kd.V_far (p := ⟨gb167, 5, none⟩) (Kd.V_far (p := ⟨gb167, 4, none⟩) (Kd.V_far (p := ⟨gb167, 3, none⟩) (Kd.V_far (p := ⟨gb167, 2, none⟩) (Kd.V_far (p := ⟨gb167, 1, none⟩) (Kd.V_far (p := ⟨gb167, 0, none⟩) (Kd.V_mono HO_7.out (fun k_ hk => (⟨hk, hk.2⟩ : _ ∧ k_ ≠ gb167))) (fun _ hk => hk.2) (.string ((rd_T29 l0_0 x9_1).f0))) (fun _ hk => hk.2) (.int .i64 ((rd_T29 l0_0 x9_1).f1))) (fun _ hk => hk.2) (.int .i64 ((rd_T29 l0_0 x9_1).f2))) (fun _ hk => hk.2) (.int .i64 ((rd_T29 l0_0 x9_1).f3))) (fun _ hk => hk.2) (.bool ((rd_T29 l0_0 x9_1).f4))) (fun _ hk => hk.2) (.bool ((rd_T29 l0_0 x9_1).f5))) (fun _ hk => hk.2) (.slice A166_6 ((rd_T29 l0_0 x9_1).f6).length c166_6)) (fun _ hk => by first | exact ⟨hk.1.1.1, ⟨hk.1.1.2.1, ⟨hk.1.1.2.2.1, ⟨hk.1.1.2.2.2.1, ⟨hk.1.1.2.2.2.2, hk.1.2⟩⟩⟩⟩⟩ | simp_all)⟩
       have n1_ : Aside0 (Kd.V k29 29 (((((((w13.setCell ⟨gb167, 0, none⟩ (.string ((rd_T29 l0_0 x9_1).f0))).setCell ⟨gb167, 1, none⟩ (.int .i64 ((rd_T29 l0_0 x9_1).f1))).setCell ⟨gb167, 2, none⟩ (.int .i64 ((rd_T29 l0_0 x9_1).f2))).setCell ⟨gb167, 3, none⟩ (.int .i64 ((rd_T29 l0_0 x9_1).f3))).setCell ⟨gb167, 4, none⟩ (.bool ((rd_T29 l0_0 x9_1).f4))).setCell ⟨gb167, 5, none⟩ (.bool ((rd_T29 l0_0 x9_1).f5))).setCell ⟨gb167, 6, none⟩ (.slice A166_6 ((rd_T29 l0_0 x9_1).f6).length c166_6)) w.heap.size (fun k_ => (P0_0_ k_ ∨ w.heap.size ≤ k_) ∧ some k_ ≠ (u166000 : Value).ownBlock ∧ k_ ≠ gb163 ∧ k_ ≠ gb164 ∧ k_ ≠ gb165 ∧ k_ ≠ gb167) (.slice (some ad166) l0_0.length c0_0) l0_0) := ⟨by (with_reducible repeat (first | apply Kd.V_alloc | apply Kd.V_drewN | apply Kd.V_drew)); exact Kd.V_mono (Kd.V_far (p := ⟨gb167, 6, none⟩) (Kd.V_far (p := ⟨gb167, 5, none⟩) (Kd.V_far (p := ⟨gb167, 4, none⟩) (Kd.V_far (p := ⟨gb167, 3, none⟩) (Kd.V_far (p := ⟨gb167, 2, none⟩) (Kd.V_far (p := ⟨gb167, 1, none⟩) (Kd.V_far (p := ⟨gb167, 0, none⟩) (Kd.V_mono HO_164000.out (fun k_ hk => (⟨hk, hk.2⟩ : _ ∧ k_ ≠ gb167))) (fun _ hk => hk.2) (.string ((rd_T29 l0_0 x9_1).f0))) (fun _ hk => hk.2) (.int .i64 ((rd_T29 l0_0 x9_1).f1))) (fun _ hk => hk.2) (.int .i64 ((rd_T29 l0_0 x9_1).f2))) (fun _ hk => hk.2) (.int .i64 ((rd_T29 l0_0 x9_1).f3))) (fun _ hk => hk.2) (.bool ((rd_T29 l0_0 x9_1).f4))) (fun _ hk => hk.2) (.bool ((rd_T29 l0_0 x9_1).f5))) (fun _ hk => hk.2) (.slice A166_6 ((rd_T29 l0_0 x9_1).f6).length c166_6)) (fun _ hk => by first | exact ⟨hk.1.1.1, ⟨hk.1.1.2.1, ⟨hk.1.1.2.2.1, ⟨hk.1.1.2.2.2.1, ⟨hk.1.1.2.2.2.2, hk.1.2⟩⟩⟩⟩⟩ | simp_all)⟩
       have n2_ : Aside0 (Kd.N k38 38 (((((((w13.setCell ⟨gb167, 0, none⟩ (.string ((rd_T29 l0_0 x9_1).f0))).setCell ⟨gb167, 1, none⟩ (.int .i64 ((rd_T29 l0_0 x9_1).f1))).setCell ⟨gb167, 2, none⟩ (.int .i64 ((rd_T29 l0_0 x9_1).f2))).setCell ⟨gb167, 3, none⟩ (.int .i64 ((rd_T29 l0_0 x9_1).f3))).setCell ⟨gb167, 4, none⟩ (.bool ((rd_T29 l0_0 x9_1).f4))).setCell ⟨gb167, 5, none⟩ (.bool ((rd_T29 l0_0 x9_1).f5))).setCell ⟨gb167, 6, none⟩ (.slice A166_6 ((rd_T29 l0_0 x9_1).f6).length c166_6)) w.heap.size (fun k_ => (P0_0_ k_ ∨ w.heap.size ≤ k_) ∧ k_ ≠ gb163 ∧ k_ ≠ gb164 ∧ k_ ≠ gb165 ∧ k_ ≠ gb167) u166000 x166000_1) := ⟨by (with_reducible repeat (first | apply Kd.N_alloc | apply Kd.N_drewN | apply Kd.N_drew)); exact Kd.N_mono (Kd.N_far (p := ⟨gb167, 6, none⟩) (Kd.N_far (p := ⟨gb167, 5, none⟩) (Kd.N_far (p := ⟨gb167, 4, none⟩) (Kd.N_far (p := ⟨gb167, 3, none⟩) (Kd.N_far (p := ⟨gb167, 2, none⟩) (Kd.N_far (p := ⟨gb167, 1, none⟩) (Kd.N_far (p := ⟨gb167, 0, none⟩) (Kd.N_mono HO_166000.out (fun k_ hk => (⟨hk, hk.2⟩ : _ ∧ k_ ≠ gb167))) (fun _ hk => hk.2) (.string ((rd_T29 l0_0 x9_1).f0))) (fun _ hk => hk.2) (.int .i64 ((rd_T29 l0_0 x9_1).f1))) (fun _ hk => hk.2) (.int .i64 ((rd_T29 l0_0 x9_1).f2))) (fun _ hk => hk.2) (.int .i64 ((rd_T29 l0_0 x9_1).f3))) (fun _ hk => hk.2) (.bool ((rd_T29 l0_0 x9_1).f4))) (fun _ hk => hk.2) (.bool ((rd_T29 l0_0 x9_1).f5))) (fun _ hk => hk.2) (.slice A166_6 ((rd_T29 l0_0 x9_1).f6).length c166_6)) (fun _ hk => by first | exact ⟨hk.1.1.1, ⟨hk.1.1.2.1, ⟨hk.1.1.2.2.1, ⟨hk.1.1.2.2.2, hk.1.2⟩⟩⟩⟩ | simp_all)⟩
       have n3_ : Aside0 (Kd.V Kd.string 9 (((((((w13.setCell ⟨gb167, 0, none⟩ (.string ((rd_T29 l0_0 x9_1).f0))).setCell ⟨gb167, 1, none⟩ (.int .i64 ((rd_T29 l0_0 x9_1).f1))).setCell ⟨gb167, 2, none⟩ (.int .i64 ((rd_T29 l0_0 x9_1).f2))).setCell ⟨gb167, 3, none⟩ (.int .i64 ((rd_T29 l0_0 x9_1).f3))).setCell ⟨gb167, 4, none⟩ (.bool ((rd_T29 l0_0 x9_1).f4))).setCell ⟨gb167, 5, none⟩ (.bool ((rd_T29 l0_0 x9_1).f5))).setCell ⟨gb167, 6, none⟩ (.slice A166_6 ((rd_T29 l0_0 x9_1).f6).length c166_6)) w.heap.size (fun k_ => (P0_0_ k_ ∨ w.heap.size ≤ k_) ∧ some k_ ≠ (u166000 : Value).ownBlock ∧ k_ ≠ gb163 ∧ k_ ≠ gb164 ∧ k_ ≠ gb165 ∧ k_ ≠ gb167) (.slice A166_6 ((rd_T29 l0_0 x9_1).f6).length c166_6) ((rd_T29 l0_0 x9_1).f6)) := ⟨by (with_reducible repeat (first | apply Kd.V_alloc | apply Kd.V_drewN | apply Kd.V_drew)); exact Kd.V_mono (Kd.V_far (p := ⟨gb167, 6, none⟩) (Kd.V_far (p := ⟨gb167, 5, none⟩) (Kd.V_far (p := ⟨gb167, 4, none⟩) (Kd.V_far (p := ⟨gb167, 3, none⟩) (Kd.V_far (p := ⟨gb167, 2, none⟩) (Kd.V_far (p := ⟨gb167, 1, none⟩) (Kd.V_far (p := ⟨gb167, 0, none⟩) (Kd.V_mono HL166_6.out (fun k_ hk => (⟨hk, hk.2⟩ : _ ∧ k_ ≠ gb167))) (fun _ hk => hk.2) (.string ((rd_T29 l0_0 x9_1).f0))) (fun _ hk => hk.2) (.int .i64 ((rd_T29 l0_0 x9_1).f1))) (fun _ hk => hk.2) (.int .i64 ((rd_T29 l0_0 x9_1).f2))) (fun _ hk => hk.2) (.int .i64 ((rd_T29 l0_0 x9_1).f3))) (fun _ hk => hk.2) (.bool ((rd_T29 l0_0 x9_1).f4))) (fun _ hk => hk.2) (.bool ((rd_T29 l0_0 x9_1).f5))) (fun _ hk => hk.2) (.slice A166_6 ((rd_T29 l0_0 x9_1).f6).length c166_6)) (fun _ hk => by first | exact ⟨hk.1.1.1, ⟨hk.1.1.2.1, ⟨hk.1.1.2.2.1, ⟨hk.1.1.2.2.2.1, ⟨hk.1.1.2.2.2.2, hk.1.2⟩⟩⟩⟩⟩ | simp_all)⟩
       have n4_ : Aside0 ((((((((w13.setCell ⟨gb167, 0, none⟩ (.string ((rd_T29 l0_0 x9_1).f0))).setCell ⟨gb167, 1, none⟩ (.int .i64 ((rd_T29 l0_0 x9_1).f1))).setCell ⟨gb167, 2, none⟩ (.int .i64 ((rd_T29 l0_0 x9_1).f2))).setCell ⟨gb167, 3, none⟩ (.int .i64 ((rd_T29 l0_0 x9_1).f3))).setCell ⟨gb167, 4, none⟩ (.bool ((rd_T29 l0_0 x9_1).f4))).setCell ⟨gb167, 5, none⟩ (.bool ((rd_T29 l0_0 x9_1).f5))).setCell ⟨gb167, 6, none⟩ (.slice A166_6 ((rd_T29 l0_0 x9_1).f6).length c166_6)).heap[gb163]? = some (.cells #[.slice (some ad166) l0_0.length c0_0] 24 (0, 0))) := ⟨G1_ BK163.out⟩
       have n5_ : Aside0 ((((((((w13.setCell ⟨gb167, 0, none⟩ (.string ((rd_T29 l0_0 x9_1).f0))).setCell ⟨gb167, 1, none⟩ (.int .i64 ((rd_T29 l0_0 x9_1).f1))).setCell ⟨gb167, 2, none⟩ (.int .i64 ((rd_T29 l0_0 x9_1).f2))).setCell ⟨gb167, 3, none⟩ (.int .i64 ((rd_T29 l0_0 x9_1).f3))).setCell ⟨gb167, 4, none⟩ (.bool ((rd_T29 l0_0 x9_1).f4))).setCell ⟨gb167, 5, none⟩ (.bool ((rd_T29 l0_0 x9_1).f5))).setCell ⟨gb167, 6, none⟩ (.slice A166_6 ((rd_T29 l0_0 x9_1).f6).length c166_6)).heap[gb164]? = some (.cells #[.slice none 0 0] 34 (0, 0))) := ⟨G1_ BK164.out⟩
       have n6_ : Aside0 ((((((((w13.setCell ⟨gb167, 0, none⟩ (.string ((rd_T29 l0_0 x9_1).f0))).setCell ⟨gb167, 1, none⟩ (.int .i64 ((rd_T29 l0_0 x9_1).f1))).setCell ⟨gb167, 2, none⟩ (.int .i64 ((rd_T29 l0_0 x9_1).f2))).setCell ⟨gb167, 3, none⟩ (.int .i64 ((rd_T29 l0_0 x9_1).f3))).setCell ⟨gb167, 4, none⟩ (.bool ((rd_T29 l0_0 x9_1).f4))).setCell ⟨gb167, 5, none⟩ (.bool ((rd_T29 l0_0 x9_1).f5))).setCell ⟨gb167, 6, none⟩ (.slice A166_6 ((rd_T29 l0_0 x9_1).f6).length c166_6)).heap[gb165]? = some (.cells #[u166000] 34 (0, 0))) := ⟨G1_ BK165.out⟩
       have n7_ : Aside0 ((((((((w13.setCell ⟨gb167, 0, none⟩ (.string ((rd_T29 l0_0 x9_1).f0))).setCell ⟨gb167, 1, none⟩ (.int .i64 ((rd_T29 l0_0 x9_1).f1))).setCell ⟨gb167, 2, none⟩ (.int .i64 ((rd_T29 l0_0 x9_1).f2))).setCell ⟨gb167, 3, none⟩ (.int .i64 ((rd_T29 l0_0 x9_1).f3))).setCell ⟨gb167, 4, none⟩ (.bool ((rd_T29 l0_0 x9_1).f4))).setCell ⟨gb167, 5, none⟩ (.bool ((rd_T29 l0_0 x9_1).f5))).setCell ⟨gb167, 6, none⟩ (.slice A166_6 ((rd_T29 l0_0 x9_1).f6).length c166_6)).heap[gb167]? = some (.cells #[.string ((rd_T29 l0_0 x9_1).f0), .int .i64 ((rd_T29 l0_0 x9_1).f1), .int .i64 ((rd_T29 l0_0 x9_1).f2), .int .i64 ((rd_T29 l0_0 x9_1).f3), .bool ((rd_T29 l0_0 x9_1).f4), .bool ((rd_T29 l0_0 x9_1).f5), .slice A166_6 ((rd_T29 l0_0 x9_1).f6).length c166_6] 29 (0, 0))) := ⟨G1_ BK167.out⟩
       have n8_ : Aside0 (Below w.heap.size w (((((((w13.setCell ⟨gb167, 0, none⟩ (.string ((rd_T29 l0_0 x9_1).f0))).setCell ⟨gb167, 1, none⟩ (.int .i64 ((rd_T29 l0_0 x9_1).f1))).setCell ⟨gb167, 2, none⟩ (.int .i64 ((rd_T29 l0_0 x9_1).f2))).setCell ⟨gb167, 3, none⟩ (.int .i64 ((rd_T29 l0_0 x9_1).f3))).setCell ⟨gb167, 4, none⟩ (.bool ((rd_T29 l0_0 x9_1).f4))).setCell ⟨gb167, 5, none⟩ (.bool ((rd_T29 l0_0 x9_1).f5))).setCell ⟨gb167, 6, none⟩ (.slice A166_6 ((rd_T29 l0_0 x9_1).f6).length c166_6))) := ⟨W2_⟩
       (try clear HO_7)
       (try clear HO_164000)
       (try clear HO_166000)
       (try clear HL166_6)
       (try clear BK163)
       (try clear BK164)
       (try clear BK165)
       (try clear BK167)
       (try clear HB)
       generalize (((((((w13.setCell ⟨gb167, 0, none⟩ (.string ((rd_T29 l0_0 x9_1).f0))).setCell ⟨gb167, 1, none⟩ (.int .i64 ((rd_T29 l0_0 x9_1).f1))).setCell ⟨gb167, 2, none⟩ (.int .i64 ((rd_T29 l0_0 x9_1).f2))).setCell ⟨gb167, 3, none⟩ (.int .i64 ((rd_T29 l0_0 x9_1).f3))).setCell ⟨gb167, 4, none⟩ (.bool ((rd_T29 l0_0 x9_1).f4))).setCell ⟨gb167, 5, none⟩ (.bool ((rd_T29 l0_0 x9_1).f5))).setCell ⟨gb167, 6, none⟩ (.slice A166_6 ((rd_T29 l0_0 x9_1).f6).length c166_6)) = w18 at n0_ n1_ n2_ n3_ n4_ n5_ n6_ n7_ n8_ ⊢
       have HO_7 := n0_
       have HO_164000 := n1_
       have HO_166000 := n2_
       have HL166_6 := n3_
       have BK163 := n4_
       have BK164 := n5_
       have BK165 := n6_
       have BK167 := n7_
       have HB := n8_
       clear n0_ n1_ n2_ n3_ n4_ n5_ n6_ n7_ n8_
       have n0_ := Aside0.mk (Kd.V_drew HO_7.out)
       have n1_ := Aside0.mk (Kd.V_drew HO_164000.out)
       have n2_ := Aside0.mk (Kd.N_drew HO_166000.out)
       have n3_ := Aside0.mk (Kd.V_drew HL166_6.out)
       have n4_ := Aside0.mk (bD_ BK163.out)
       have n5_ := Aside0.mk (bD_ BK164.out)
       have n6_ := Aside0.mk (bD_ BK165.out)
       have n7_ := Aside0.mk (bD_ BK167.out)
       have n8_ := Aside0.mk (zD_ HB.out)
       clear HO_7
       clear HO_164000
       clear HO_166000
       clear HL166_6
       clear BK163
       clear BK164
       clear BK165
       clear BK167
       clear HB
       have HO_7 := n0_
       have HO_164000 := n1_
       have HO_166000 := n2_
       have HL166_6 := n3_
       have BK163 := n4_
       have BK164 := n5_
       have BK165 := n6_
       have BK167 := n7_
       have HB := n8_
       clear n0_ n1_ n2_ n3_ n4_ n5_ n6_ n7_ n8_
       refine start_ (n := 8) (S := fun w' => w'.cell? ⟨gb165, 0, none⟩ = some (u166000) ∧ w'.cell? ⟨gb167, 0, none⟩ = some (.string ((rd_T29 l0_0 x9_1).f0)) ∧ w'.cell? ⟨gb167, 1, none⟩ = some (.int .i64 ((rd_T29 l0_0 x9_1).f1)) ∧ w'.cell? ⟨gb167, 2, none⟩ = some (.int .i64 ((rd_T29 l0_0 x9_1).f2)) ∧ w'.cell? ⟨gb167, 3, none⟩ = some (.int .i64 ((rd_T29 l0_0 x9_1).f3)) ∧ w'.cell? ⟨gb167, 4, none⟩ = some (.bool ((rd_T29 l0_0 x9_1).f4)) ∧ w'.cell? ⟨gb167, 5, none⟩ = some (.bool ((rd_T29 l0_0 x9_1).f5)) ∧ w'.cell? ⟨gb167, 6, none⟩ = some (.slice A166_6 ((rd_T29 l0_0 x9_1).f6).length c166_6)) (ds := [7]) #[false, false, false, false, false, false, false, false] (by kernel_rfl) rfl rfl ⟨xC_ BK165.out 0, xC_ BK167.out 0, xC_ BK167.out 1, xC_ BK167.out 2, xC_ BK167.out 3, xC_ BK167.out 4, xC_ BK167.out 5, xC_ BK167.out 6⟩ (fun hHeld => ?_); refine with_tabW pantrymade_Config.tab5 pantrymade_Config.bits5 (fun HT_ HW_ => ?_)
       generalize w18.drew = w19 at HO_7 HO_164000 HO_166000 HL166_6 BK163 BK164 BK165 BK167 HB hHeld ⊢
       refine pure_ (i := 0) (N := some 13) (v := ?_) (a' := ?_) #[true, false, false, false, false, false, false, false] rfl rfl (any_of HT_.out (by kernel_rfl)) (fun _ _ _ h => h) (Or.inl ⟨by rfl, ?_⟩) ?_ ?_
       rotate_left
       ·
        intro w'
        go_simp
        with_reducible rfl
       rotate_left
       ·
        simp only [Act.put, sA_, sZ_, sS_, i64_w, i32_w]
        rfl
       refine take_ (i := 1) (N := some 14) (v := ?_) (a' := ?_) #[true, true, false, false, false, false, false, false] rfl rfl (take_ofW HT_.out HW_.out (by kernel_rfl)) (fun _ _ _ h => h) (Or.inl ⟨by rfl, ?_⟩) hHeld ?_ ?_
       rotate_left
       ·
        rintro w' ⟨s0, s1, s2, s3, s4, s5, s6, s7⟩
        go_simp
        with_reducible rfl
       rotate_left
       ·
        simp only [Act.put, sA_, sZ_, sS_, i64_w, i32_w]
        rfl
       refine take_ (i := 2) (N := some 15) (v := ?_) (a' := ?_) #[true, true, true, false, false, false, false, false] rfl rfl (take_ofW HT_.out HW_.out (by kernel_rfl)) (fun _ _ _ h => h) (Or.inl ⟨by rfl, ?_⟩) hHeld ?_ ?_
       rotate_left
       ·
        rintro w' ⟨s0, s1, s2, s3, s4, s5, s6, s7⟩
        go_simp
        with_reducible rfl
       rotate_left
       ·
        simp only [Act.put, sA_, sZ_, sS_, i64_w, i32_w]
        rfl
       refine one_ (i := 3) (N := some 16) #[true, true, true, true, false, false, false, false] rfl rfl (one_of HT_.out (by kernel_rfl)) (by decide) (fun K hK => ?_)
       refine goes_ Tryd.func14 (by kernel_rfl) rfl #[.agg #[.string ((rd_T29 l0_0 x9_1).f0), .int .i64 ((rd_T29 l0_0 x9_1).f1), .int .i64 ((rd_T29 l0_0 x9_1).f2), .int .i64 ((rd_T29 l0_0 x9_1).f3), .bool ((rd_T29 l0_0 x9_1).f4), .bool ((rd_T29 l0_0 x9_1).f5), .slice A166_6 ((rd_T29 l0_0 x9_1).f6).length c166_6]] (by rfl) rfl rfl T1_ ?_
       with_reducible refine (pantrymade_Site.calls ((rd_T29 l0_0 x9_1).f0) ((rd_T29 l0_0 x9_1).f1) ((rd_T29 l0_0 x9_1).f2) ((rd_T29 l0_0 x9_1).f3) ((rd_T29 l0_0 x9_1).f4) ((rd_T29 l0_0 x9_1).f5) (fun k_ => ((P0_0_ k_ ∨ w.heap.size ≤ k_) ∧ (some k_ ≠ (u166000 : Value).ownBlock ∧ (k_ ≠ gb163 ∧ (k_ ≠ gb164 ∧ (k_ ≠ gb165 ∧ k_ ≠ gb167)))))) _ _ ((rd_T29 l0_0 x9_1).f6) t168 t169 t170 t171 t172 t173 t174 _ ?side1 A11.out).mono ?_
       (case side1 => exact HL166_6.out)
       rintro e w20 ⟨v175, rfl, ho0, hb⟩
       refine ⟨_, rfl, ?_⟩
       have n0_ := Aside0.mk (Kd.V_below (by (with_reducible repeat (first | apply Kd.V_alloc | apply Kd.V_drewN | apply Kd.V_drew)); exact HO_7.out) hb)
       have n1_ := Aside0.mk (Kd.V_below (by (with_reducible repeat (first | apply Kd.V_alloc | apply Kd.V_drewN | apply Kd.V_drew)); exact HO_164000.out) hb)
       have n2_ := Aside0.mk (Kd.N_below (by (with_reducible repeat (first | apply Kd.N_alloc | apply Kd.N_drewN | apply Kd.N_drew)); exact HO_166000.out) hb)
       have n3_ := Aside0.mk (Kd.V_below (by (with_reducible repeat (first | apply Kd.V_alloc | apply Kd.V_drewN | apply Kd.V_drew)); exact HL166_6.out) hb)
       have n4_ := Aside0.mk (Kd.V_lower (Kd.V_mono (ok' := fun k_ => (P0_0_ k_ ∨ w.heap.size ≤ k_) ∧ some k_ ≠ (u166000 : Value).ownBlock ∧ k_ ≠ gb163 ∧ k_ ≠ gb164 ∧ k_ ≠ gb165 ∧ k_ ≠ gb167) ho0 (fun k_ hk_ => ⟨Or.elim hk_ (fun hs_ => hs_.1) (fun hn_ => (.inr (Nat.le_trans (below_size W2_) hn_))), Or.elim hk_ (fun hs_ => hs_.2.1) (fun hn_ => (Kd.fresh' (Kd.N_lt (by (with_reducible repeat (first | apply Kd.N_alloc | apply Kd.N_drewN | apply Kd.N_drew)); exact HO_166000.out)) k_ hn_)), Or.elim hk_ (fun hs_ => hs_.2.2.1) (fun hn_ => (Kd.freshB (g := gb163) (o := .cells #[.slice (some ad166) l0_0.length c0_0] 24 (0, 0)) (B1_ BK163.out) k_ hn_)), Or.elim hk_ (fun hs_ => hs_.2.2.2.1) (fun hn_ => (Kd.freshB (g := gb164) (o := .cells #[.slice none 0 0] 34 (0, 0)) (B1_ BK164.out) k_ hn_)), Or.elim hk_ (fun hs_ => hs_.2.2.2.2.1) (fun hn_ => (Kd.freshB (g := gb165) (o := .cells #[u166000] 34 (0, 0)) (B1_ BK165.out) k_ hn_)), Or.elim hk_ (fun hs_ => hs_.2.2.2.2.2) (fun hn_ => (Kd.freshB (g := gb167) (o := .cells #[.string ((rd_T29 l0_0 x9_1).f0), .int .i64 ((rd_T29 l0_0 x9_1).f1), .int .i64 ((rd_T29 l0_0 x9_1).f2), .int .i64 ((rd_T29 l0_0 x9_1).f3), .bool ((rd_T29 l0_0 x9_1).f4), .bool ((rd_T29 l0_0 x9_1).f5), .slice A166_6 ((rd_T29 l0_0 x9_1).f6).length c166_6] 29 (0, 0)) (B1_ BK167.out) k_ hn_))⟩)) (below_size W2_))
       have n5_ := Aside0.mk (blk_below (B1_ BK163.out) hb)
       have n6_ := Aside0.mk (blk_below (B1_ BK164.out) hb)
       have n7_ := Aside0.mk (blk_below (B1_ BK165.out) hb)
       have n8_ := Aside0.mk (blk_below (B1_ BK167.out) hb)
       have n9_ := Aside0.mk (below_step W2_ hb)
       clear HO_7
       clear HO_164000
       clear HO_166000
       clear HL166_6
       clear BK163
       clear BK164
       clear BK165
       clear BK167
       clear HB
       have HO_7 := n0_
       have HO_164000 := n1_
       have HO_166000 := n2_
       have HL166_6 := n3_
       have HO176 := n4_
       have BK163 := n5_
       have BK164 := n6_
       have BK165 := n7_
       have BK167 := n8_
       have HB := n9_
       clear n0_ n1_ n2_ n3_ n4_ n5_ n6_ n7_ n8_ n9_
       (try clear hb)
       (try clear hb2)
       (try clear hk)
       (try clear hi)
       (try clear ho0)
       obtain ⟨Ao22, co22, eo22⟩ := Kd.V_slice HO176.out
       (first | subst eo22 | (injection eo22 with f1_ f2_ f3_; have f4_ := f1_.symm; have f5_ := f3_.symm; clear f1_ f2_ f3_; subst f4_; subst f5_))
       refine hK.out _ _ ⟨xC_ BK165.out 0, xC_ BK167.out 0, xC_ BK167.out 1, xC_ BK167.out 2, xC_ BK167.out 3, xC_ BK167.out 4, xC_ BK167.out 5, xC_ BK167.out 6⟩ (fun hHeld => ?_)
       clear hK K
       refine norm_ (a' := ?_) ?_ ?_
       rotate_left
       ·
        show Act.put _ (some 16) _ = _
        simp only [Act.put, sA_, sZ_, sS_, i64_w, i32_w]
        rfl
       refine one_ (i := 4) (N := some 17) #[true, true, true, true, true, false, false, false] rfl rfl (one_of HT_.out (by kernel_rfl)) (by decide) (fun K hK => ?_)
       refine value_ (w1 := ?_) (v := ?_) (by rfl) rfl ?_ ?_
       rotate_left 2
       ·
        go_simp
        constructor
        ·
         rfl
        ·
         rfl
       refine hK.out _ _ ⟨(blk_cell (bA_ BK165.out _) 0).trans rfl, (blk_cell (bA_ BK167.out _) 0).trans rfl, (blk_cell (bA_ BK167.out _) 1).trans rfl, (blk_cell (bA_ BK167.out _) 2).trans rfl, (blk_cell (bA_ BK167.out _) 3).trans rfl, (blk_cell (bA_ BK167.out _) 4).trans rfl, (blk_cell (bA_ BK167.out _) 5).trans rfl, (blk_cell (bA_ BK167.out _) 6).trans rfl⟩ (fun hHeld => ?_)
       clear hK K
       refine norm_ (a' := ?_) ?_ ?_
       rotate_left
       ·
        show Act.put _ (some 17) _ = _
        simp only [Act.put, sA_, sZ_, sS_, i64_w, i32_w]
        rfl
       refine one_ (i := 5) (N := some 18) #[true, true, true, true, true, true, false, false] rfl rfl (one_of HT_.out (by kernel_rfl)) (by decide) (fun K hK => ?_)
       refine Kd.N_append_step k38 (w0 := w) w.heap.size (by rfl) (.tmp 14) (.tmp 17) 32 38 (.agg #[(.string ⟨#[]⟩), (.int .i64 0), (.int .i64 0), (.int .i64 0), (.bool false), (.bool false), (.slice none 0 0)]) 72 rfl Tryd.underlying32 info38 rfl (by decide) (by omega) u166000 x166000_1 (⟨t168, t169, t170, t171, t172, t173, t174⟩ : S38) [.string t168, .int .i64 t169, .int .i64 t170, .int .i64 t171, .bool t172, .bool t173, .slice Ao22 t174.length co22] (fun k_ => (P0_0_ k_ ∨ w.heap.size ≤ k_) ∧ k_ ≠ gb163 ∧ k_ ≠ gb164 ∧ k_ ≠ gb165 ∧ k_ ≠ gb167) (fun k_ => ((fun k_ => (P0_0_ k_ ∨ w.heap.size ≤ k_) ∧ k_ ≠ gb163 ∧ k_ ≠ gb164 ∧ k_ ≠ gb165 ∧ k_ ≠ gb167)) k_ ∧ some k_ ≠ (u166000 : Value).ownBlock) rfl rfl ?aP (fun _ hk => hk) ?aF ?aO ?aB ?aS ?aL ?_
       (case aP => exact (k38_mkF _ _ (⟨t168, t169, t170, t171, t172, t173, t174⟩ : S38) (Kd.V_reads' (Kd.V_mono (ok' := (fun k_ => ((fun k_ => (P0_0_ k_ ∨ w.heap.size ≤ k_) ∧ k_ ≠ gb163 ∧ k_ ≠ gb164 ∧ k_ ≠ gb165 ∧ k_ ≠ gb167)) k_ ∧ some k_ ≠ (u166000 : Value).ownBlock)) (HO176.out) (fun k_ hk => ⟨⟨hk.1, ⟨hk.2.2.1, ⟨hk.2.2.2.1, ⟨hk.2.2.2.2.1, hk.2.2.2.2.2⟩⟩⟩⟩, hk.2.1⟩))).2.1 (Kd.V_F (Kd.V_mono (ok' := (fun k_ => ((fun k_ => (P0_0_ k_ ∨ w.heap.size ≤ k_) ∧ k_ ≠ gb163 ∧ k_ ≠ gb164 ∧ k_ ≠ gb165 ∧ k_ ≠ gb167)) k_ ∧ some k_ ≠ (u166000 : Value).ownBlock)) (HO176.out) (fun k_ hk => ⟨⟨hk.1, ⟨hk.2.2.1, ⟨hk.2.2.2.1, ⟨hk.2.2.2.2.1, hk.2.2.2.2.2⟩⟩⟩⟩, hk.2.1⟩)))))
       (case aB => exact W2_)
       (case aF => exact (fun k_ hk => ⟨(.inr (Nat.le_trans (below_size W2_) hk)), Kd.freshB (g := gb163) (o := .cells #[.slice (some ad166) l0_0.length c0_0] 24 (0, 0)) (B1_ BK163.out) k_ hk, Kd.freshB (g := gb164) (o := .cells #[.slice none 0 0] 34 (0, 0)) (B1_ BK164.out) k_ hk, Kd.freshB (g := gb165) (o := .cells #[u166000] 34 (0, 0)) (B1_ BK165.out) k_ hk, Kd.freshB (g := gb167) (o := .cells #[.string ((rd_T29 l0_0 x9_1).f0), .int .i64 ((rd_T29 l0_0 x9_1).f1), .int .i64 ((rd_T29 l0_0 x9_1).f2), .int .i64 ((rd_T29 l0_0 x9_1).f3), .bool ((rd_T29 l0_0 x9_1).f4), .bool ((rd_T29 l0_0 x9_1).f5), .slice A166_6 ((rd_T29 l0_0 x9_1).f6).length c166_6] 29 (0, 0)) (B1_ BK167.out) k_ hk⟩))
       (case aO => exact (by (with_reducible repeat (first | apply Kd.N_alloc | apply Kd.N_drewN | apply Kd.N_drew)); exact HO_166000.out))
       (case aS => exact (below_size W2_))
       (case aL => have := LMc12.out; omega)
       intro v178 w21 ho hb hg hat
       rw [← Ny177.out] at ho
       have n0_ := Aside0.mk (Kd.V_afterv (ok := (fun k_ => (P0_0_ k_ ∨ w.heap.size ≤ k_) ∧ k_ ≠ gb163 ∧ k_ ≠ gb164 ∧ k_ ≠ gb165 ∧ k_ ≠ gb167)) (by (with_reducible repeat (first | apply Kd.V_alloc | apply Kd.V_drewN | apply Kd.V_drew)); exact Kd.V_mono HO_7.out (fun _ hk => by first | exact ⟨⟨hk.1, ⟨hk.2.2.1, ⟨hk.2.2.2.1, ⟨hk.2.2.2.2.1, hk.2.2.2.2.2⟩⟩⟩⟩, hk.2.1⟩ | simp_all)) hg hat)
       have n1_ := Aside0.mk (Kd.V_afterv (ok := (fun k_ => (P0_0_ k_ ∨ w.heap.size ≤ k_) ∧ k_ ≠ gb163 ∧ k_ ≠ gb164 ∧ k_ ≠ gb165 ∧ k_ ≠ gb167)) (by (with_reducible repeat (first | apply Kd.V_alloc | apply Kd.V_drewN | apply Kd.V_drew)); exact Kd.V_mono HO_164000.out (fun _ hk => by first | exact ⟨⟨hk.1, ⟨hk.2.2.1, ⟨hk.2.2.2.1, ⟨hk.2.2.2.2.1, hk.2.2.2.2.2⟩⟩⟩⟩, hk.2.1⟩ | simp_all)) hg hat)
       have n2_ := Aside0.mk (blk_grown (g := gb163) (o := .cells #[.slice (some ad166) l0_0.length c0_0] 24 (0, 0)) (B1_ BK163.out) hg (Kd.N_ne HO_166000.out BK163.out (by decide)))
       have n3_ := Aside0.mk (blk_grown (g := gb164) (o := .cells #[.slice none 0 0] 34 (0, 0)) (B1_ BK164.out) hg (Kd.N_ne HO_166000.out BK164.out (by decide)))
       have n4_ := Aside0.mk (blk_grown (g := gb165) (o := .cells #[u166000] 34 (0, 0)) (B1_ BK165.out) hg (Kd.N_ne HO_166000.out BK165.out (by decide)))
       have n5_ := Aside0.mk (Kd.V_afterv (ok := (fun k_ => (P0_0_ k_ ∨ w.heap.size ≤ k_) ∧ k_ ≠ gb163 ∧ k_ ≠ gb164 ∧ k_ ≠ gb165 ∧ k_ ≠ gb167)) (by (with_reducible repeat (first | apply Kd.V_alloc | apply Kd.V_drewN | apply Kd.V_drew)); exact Kd.V_mono HL166_6.out (fun _ hk => by first | exact ⟨⟨hk.1, ⟨hk.2.2.1, ⟨hk.2.2.2.1, ⟨hk.2.2.2.2.1, hk.2.2.2.2.2⟩⟩⟩⟩, hk.2.1⟩ | simp_all)) hg hat)
       have n6_ := Aside0.mk (blk_grown (g := gb167) (o := .cells #[.string ((rd_T29 l0_0 x9_1).f0), .int .i64 ((rd_T29 l0_0 x9_1).f1), .int .i64 ((rd_T29 l0_0 x9_1).f2), .int .i64 ((rd_T29 l0_0 x9_1).f3), .bool ((rd_T29 l0_0 x9_1).f4), .bool ((rd_T29 l0_0 x9_1).f5), .slice A166_6 ((rd_T29 l0_0 x9_1).f6).length c166_6] 29 (0, 0)) (B1_ BK167.out) hg (Kd.N_ne HO_166000.out BK167.out (by decide)))
       have n7_ := Aside0.mk (Kd.V_afterv (ok := (fun k_ => (P0_0_ k_ ∨ w.heap.size ≤ k_) ∧ k_ ≠ gb163 ∧ k_ ≠ gb164 ∧ k_ ≠ gb165 ∧ k_ ≠ gb167)) (by (with_reducible repeat (first | apply Kd.V_alloc | apply Kd.V_drewN | apply Kd.V_drew)); exact Kd.V_mono HO176.out (fun _ hk => by first | exact ⟨⟨hk.1, ⟨hk.2.2.1, ⟨hk.2.2.2.1, ⟨hk.2.2.2.2.1, hk.2.2.2.2.2⟩⟩⟩⟩, hk.2.1⟩ | simp_all)) hg hat)
       have n8_ := Aside0.mk (hb)
       have n9_ := Aside0.mk (ho)
       clear HO_7
       clear HO_164000
       clear BK163
       clear BK164
       clear BK165
       clear HL166_6
       clear BK167
       clear HO176
       clear HB
       clear HO_166000
       have HO_7 := n0_
       have HO_164000 := n1_
       have BK163 := n2_
       have BK164 := n3_
       have BK165 := n4_
       have HL166_6 := n5_
       have BK167 := n6_
       have HO176 := n7_
       have HB := n8_
       have HO179 := n9_
       clear n0_ n1_ n2_ n3_ n4_ n5_ n6_ n7_ n8_ n9_
       clear ho hb hg hat
       obtain ⟨Ao23, co23, eo23⟩ := Kd.N_slice HO179.out
       (first | subst eo23 | (injection eo23 with f1_ f2_ f3_; have f4_ := f1_.symm; have f5_ := f3_.symm; clear f1_ f2_ f3_; subst f4_; subst f5_))
       refine hK.out _ _ ⟨xC_ BK165.out 0, xC_ BK167.out 0, xC_ BK167.out 1, xC_ BK167.out 2, xC_ BK167.out 3, xC_ BK167.out 4, xC_ BK167.out 5, xC_ BK167.out 6⟩ (fun hHeld => ?_)
       clear hK K
       refine norm_ (a' := ?_) ?_ ?_
       rotate_left
       ·
        show Act.put _ (some 18) _ = _
        simp only [Act.put, sA_, sZ_, sS_, i64_w, i32_w]
        rfl
       refine pure_ (i := 6) (N := some 19) (v := ?_) (a' := ?_) #[true, true, true, true, true, true, true, false] rfl rfl (any_of HT_.out (by kernel_rfl)) (fun _ _ _ h => h) (Or.inl ⟨by rfl, ?_⟩) ?_ ?_
       rotate_left
       ·
        intro w'
        go_simp
        with_reducible rfl
       rotate_left
       ·
        simp only [Act.put, sA_, sZ_, sS_, i64_w, i32_w]
        rfl
       refine last_ (i := 7) (N := none) #[true, true, true, true, true, true, true, true] rfl rfl (one_of HT_.out (by kernel_rfl)) (by decide) (fun K hK => ?_)
       have hs24 : w21.cell? ⟨gb165, 0, none⟩ = some (u166000) := xC_ BK165.out 0
       have hfs24 := blk_frozen BK165.out 0
       have hns24_0 := NB163_165.out
       have hns24_1 := NB164_165.out
       have hns24_3 := NB167_165.out
       have hms24_0 := NB165_163.out
       have hms24_1 := NB165_164.out
       have hms24_3 := NB165_167.out
       refine skip_ (w1 := ?_) (by rfl) rfl ?_ ?_
       rotate_left
       ·
        go_simp
        rfl
       refine hK.out _ _ ?_
       clear hK K
       refine done_ (done_of HT_.out (by kernel_rfl)) ?_
       try go_wp2
       go_roundg k1
       case measure => have := HK1.out; omega
       case rel => exact ⟨(wrap64 (x9_1 + 1)), (y177), (.slice Ao23 y177.length co23), E3_, H', ⟨by have := HK1.out; omega⟩, ⟨by (with_reducible repeat (first | apply Kd.V_alloc | apply Kd.V_drewN | apply Kd.V_drew)); exact Kd.V_mono (Kd.V_far (p := ⟨gb165, 0, none⟩) (Kd.V_mono HO_7.out (fun k_ hk => (⟨hk, hk.1.2.2.2.1⟩ : _ ∧ k_ ≠ gb165))) (fun _ hk => hk.2) (.slice Ao23 y177.length co23)) (fun _ hk => by first | exact ⟨hk.1.1.1, ⟨hk.1.2, ⟨hk.1.1.2.1, ⟨hk.1.1.2.2.1, hk.1.1.2.2.2.1⟩⟩⟩⟩ | simp_all)⟩, ⟨by (with_reducible repeat (first | apply Kd.V_alloc | apply Kd.V_drewN | apply Kd.V_drew)); exact Kd.V_mono (Kd.V_far (p := ⟨gb165, 0, none⟩) (Kd.V_mono HO_164000.out (fun k_ hk => (⟨hk, hk.1.2.2.2.1⟩ : _ ∧ k_ ≠ gb165))) (fun _ hk => hk.2) (.slice Ao23 y177.length co23)) (fun _ hk => by first | exact ⟨hk.1.1.1, ⟨hk.1.2, ⟨hk.1.1.2.1, ⟨hk.1.1.2.2.1, hk.1.1.2.2.2.1⟩⟩⟩⟩ | simp_all)⟩, ⟨by (with_reducible repeat (first | apply Kd.N_alloc | apply Kd.N_drewN | apply Kd.N_drew)); exact Kd.N_mono (Kd.N_far (p := ⟨gb165, 0, none⟩) (Kd.N_mono HO179.out (fun k_ hk => (⟨hk, hk.2.2.2.1⟩ : _ ∧ k_ ≠ gb165))) (fun _ hk => hk.2) (.slice Ao23 y177.length co23)) (fun _ hk => by first | exact ⟨hk.1.1, ⟨hk.1.2.1, ⟨hk.1.2.2.1, hk.1.2.2.2.1⟩⟩⟩ | simp_all)⟩, ⟨G1_ BK163.out⟩, ⟨G1_ BK164.out⟩, ⟨G1_ BK165.out⟩, ⟨W2_⟩⟩
      ·
       rw [if_neg c12] at H
       exact absurd H (by simp)
     ·
      rw [if_neg c10] at H
      exact absurd H (by simp)
    ·
     rw [if_neg c9] at H
     exact absurd H (by simp)
   ·
    rw [if_neg c8] at H
    have c8b0 : decide (x9_1 < (l0_0.length : Int)) = false := decide_eq_false c8
    clear c8
    obtain rfl := Option.some.inj H
    have hnb25 := NB165_163.out
    have hnc25 := NB163_165.out
    have hnb26 := NB165_164.out
    have hnc26 := NB164_165.out
    obtain ⟨z27_0, y27_0⟩ := cz1_ BK165.out
    obtain ⟨Ao28, co28, eo28⟩ := Kd.N_slice HO_166000.out
    subst eo28
    have hnb29 := NB164_163.out
    have hnc29 := NB163_164.out
    obtain ⟨z30_0, y30_0⟩ := cz1_ BK164.out
    go_wp2
    refine bodyPost_ret (results_cell_row rfl _ _ gb164 34 #[.slice Ao28 x166000_1.length co28] (0, 0) _ rfl (G1_ BK164.out) Tryd.underlying34 rfl (by kernel_rfl)) rfl ?_
    exact ⟨_, E1_, by (with_reducible repeat (first | apply Kd.N_alloc | apply Kd.N_drewN | apply Kd.N_drew)); exact Kd.N_mono (Kd.N_far (p := ⟨gb164, 0, none⟩) (Kd.N_mono HO_166000.out (fun k_ hk => (⟨hk, hk.2.2.1⟩ : _ ∧ k_ ≠ gb164))) (fun _ hk => hk.2) (.slice Ao28 x166000_1.length co28)) (fun _ hk => hk.1.1), W2_⟩

/-! ### pantryref09_comment: function 20 -/
def pantryref09_comment.f (a0 : ByteArray) (a1 : Int) : Option (Bool) := if (wrap64 (a1 + 1)) < (a0.size : Int) then (if 0 ≤ a1 then (if a1 < (a0.size : Int) then (if (bt a0 a1) = 47 then (if 0 ≤ (wrap64 (a1 + 1)) then (some ((bt a0 (wrap64 (a1 + 1))) == 47)) else (none)) else (some false)) else (none)) else (none)) else (some false)
set_option maxHeartbeats 8000000 in
set_option maxRecDepth 100000 in
theorem pantryref09_comment.calls (a0 : ByteArray) (a1 : Int) (r : Bool) (w : World) (h : pantryref09_comment.f a0 a1 = some r) :
  Calls Tryd.prog 20 #[.string a0, .int .i64 a1] w fun e w' => e = .returned (.bool r) ∧ Drawn0 w w' := by
 have H : (if (wrap64 (a1 + 1)) < (a0.size : Int) then (if 0 ≤ a1 then (if a1 < (a0.size : Int) then (if (bt a0 a1) = 47 then (if 0 ≤ (wrap64 (a1 + 1)) then (some ((bt a0 (wrap64 (a1 + 1))) == 47)) else (none)) else (some false)) else (none)) else (none)) else (some false)) = some r := h
 clear h
 by_cases c3 : (wrap64 (a1 + 1)) < (a0.size : Int)
 ·
  rw [if_pos c3] at H
  have c3b0 : decide ((wrap64 (a1 + 1)) < (a0.size : Int)) = true := decide_eq_true c3
  clear c3
  by_cases c4 : 0 ≤ a1
  ·
   rw [if_pos c4] at H
   have c4b0 : decide (0 ≤ a1) = true := decide_eq_true c4
   clear c4
   by_cases c5 : a1 < (a0.size : Int)
   ·
    rw [if_pos c5] at H
    have c5b0 : decide (a1 < (a0.size : Int)) = true := decide_eq_true c5
    clear c5
    by_cases c7 : (bt a0 a1) = 47
    ·
     rw [if_pos c7] at H
     have c7b0 : ((bt a0 a1) == 47) = true := beq_iff_eq.mpr c7
     have c7b1 : ((bt a0 a1) != 47) = false := bne_eq_false_iff_eq.mpr c7
     clear c7
     obtain ⟨ji8, hji8⟩ : ∃ j_ : Int, (wrap64 (a1 + 1)) = j_ := ⟨_, rfl⟩
     replace H : (if 0 ≤ (ji8) then (some ((bt a0 (ji8)) == 47)) else (none)) = some r := by first | (rw [hji8] at H; exact H) | (simp only [hji8] at H ⊢; exact H)
     (try rw [hji8] at c3b0)
     have hji8w : (IntKind.i64.wrap (a1 + 1)) = ji8 := (i64_w _).trans hji8
     by_cases c9 : 0 ≤ (ji8)
     ·
      rw [if_pos c9] at H
      have c9b0 : decide (0 ≤ (ji8)) = true := decide_eq_true c9
      clear c9
      obtain rfl := Option.some.inj H
      have p6 : 0 ≤ (a1 : Int) := oA_
      have q6 : a1 < (a0.size : Int) := oA_
      have hx6 := bt_at a0 a1
      replace p6 := eq_true p6
      replace q6 := eq_true q6
      have p10 : 0 ≤ ((ji8) : Int) := oA_
      have q10 : (ji8) < (a0.size : Int) := oA_
      have hx10 := bt_at a0 (ji8)
      replace p10 := eq_true p10
      replace q10 := eq_true q10
      go_enter Tryd.func20, Tryd.ntmps20
      go_wp2
      go_ret
      exact ⟨by first | rfl | (rw [Int.tdiv_eq_ediv_of_nonneg (by assumption)]; rfl) | (simp; done) | (simp only [← hji8] <;> (first | rfl | simp)) | (simp [*]; done), D1_⟩
     ·
      rw [if_neg c9] at H
      exact absurd H (by simp)
    ·
     rw [if_neg c7] at H
     have c7b0 : ((bt a0 a1) == 47) = false := beq_eq_false_iff_ne.mpr c7
     have c7b1 : ((bt a0 a1) != 47) = true := bne_iff_ne.mpr c7
     obtain rfl := Option.some.inj H
     have p6 : 0 ≤ (a1 : Int) := oA_
     have q6 : a1 < (a0.size : Int) := oA_
     have hx6 := bt_at a0 a1
     replace p6 := eq_true p6
     replace q6 := eq_true q6
     go_enter Tryd.func20, Tryd.ntmps20
     go_wp2
     go_ret
     exact ⟨E2_, D1_⟩
   ·
    rw [if_neg c5] at H
    exact absurd H (by simp)
  ·
   rw [if_neg c4] at H
   exact absurd H (by simp)
 ·
  rw [if_neg c3] at H
  have c3b0 : decide ((wrap64 (a1 + 1)) < (a0.size : Int)) = false := decide_eq_false c3
  clear c3
  obtain rfl := Option.some.inj H
  go_enter Tryd.func20, Tryd.ntmps20
  go_wp2
  go_ret
  exact ⟨E2_, D1_⟩

/-! ### pantryref09_plain: function 21 -/
def pantryref09_plain.f (a0 : Int) : Option (Bool) := if a0 = 32 then (some false) else (if a0 = 9 then (some false) else (if a0 = 10 then (some false) else (if a0 = 123 then (some false) else (if a0 = 125 then (some false) else (some (a0 != 59))))))
set_option maxHeartbeats 8000000 in
set_option maxRecDepth 100000 in
theorem pantryref09_plain.calls (a0 : Int) (r : Bool) (w : World) (h : pantryref09_plain.f a0 = some r) :
  Calls Tryd.prog 21 #[.int .u8 a0] w fun e w' => e = .returned (.bool r) ∧ Drawn0 w w' := by
 have H : (if a0 = 32 then (some false) else (if a0 = 9 then (some false) else (if a0 = 10 then (some false) else (if a0 = 123 then (some false) else (if a0 = 125 then (some false) else (some (a0 != 59))))))) = some r := h
 clear h
 by_cases c2 : a0 = 32
 ·
  rw [if_pos c2] at H
  have c2b0 : (a0 == 32) = true := beq_iff_eq.mpr c2
  have c2b1 : (a0 != 32) = false := bne_eq_false_iff_eq.mpr c2
  clear c2
  obtain rfl := Option.some.inj H
  go_enter Tryd.func21, Tryd.ntmps21
  go_wp2
  go_ret
  exact ⟨E2_, D1_⟩
 ·
  rw [if_neg c2] at H
  have c2b0 : (a0 == 32) = false := beq_eq_false_iff_ne.mpr c2
  have c2b1 : (a0 != 32) = true := bne_iff_ne.mpr c2
  by_cases c3 : a0 = 9
  ·
   rw [if_pos c3] at H
   have c3b0 : (a0 == 9) = true := beq_iff_eq.mpr c3
   have c3b1 : (a0 != 9) = false := bne_eq_false_iff_eq.mpr c3
   clear c3
   obtain rfl := Option.some.inj H
   go_enter Tryd.func21, Tryd.ntmps21
   go_wp2
   go_ret
   exact ⟨E2_, D1_⟩
  ·
   rw [if_neg c3] at H
   have c3b0 : (a0 == 9) = false := beq_eq_false_iff_ne.mpr c3
   have c3b1 : (a0 != 9) = true := bne_iff_ne.mpr c3
   by_cases c4 : a0 = 10
   ·
    rw [if_pos c4] at H
    have c4b0 : (a0 == 10) = true := beq_iff_eq.mpr c4
    have c4b1 : (a0 != 10) = false := bne_eq_false_iff_eq.mpr c4
    clear c4
    obtain rfl := Option.some.inj H
    go_enter Tryd.func21, Tryd.ntmps21
    go_wp2
    go_ret
    exact ⟨E2_, D1_⟩
   ·
    rw [if_neg c4] at H
    have c4b0 : (a0 == 10) = false := beq_eq_false_iff_ne.mpr c4
    have c4b1 : (a0 != 10) = true := bne_iff_ne.mpr c4
    by_cases c5 : a0 = 123
    ·
     rw [if_pos c5] at H
     have c5b0 : (a0 == 123) = true := beq_iff_eq.mpr c5
     have c5b1 : (a0 != 123) = false := bne_eq_false_iff_eq.mpr c5
     clear c5
     obtain rfl := Option.some.inj H
     go_enter Tryd.func21, Tryd.ntmps21
     go_wp2
     go_ret
     exact ⟨E2_, D1_⟩
    ·
     rw [if_neg c5] at H
     have c5b0 : (a0 == 123) = false := beq_eq_false_iff_ne.mpr c5
     have c5b1 : (a0 != 123) = true := bne_iff_ne.mpr c5
     by_cases c6 : a0 = 125
     ·
      rw [if_pos c6] at H
      have c6b0 : (a0 == 125) = true := beq_iff_eq.mpr c6
      have c6b1 : (a0 != 125) = false := bne_eq_false_iff_eq.mpr c6
      clear c6
      obtain rfl := Option.some.inj H
      go_enter Tryd.func21, Tryd.ntmps21
      go_wp2
      go_ret
      exact ⟨E2_, D1_⟩
     ·
      rw [if_neg c6] at H
      have c6b0 : (a0 == 125) = false := beq_eq_false_iff_ne.mpr c6
      have c6b1 : (a0 != 125) = true := bne_iff_ne.mpr c6
      obtain rfl := Option.some.inj H
      go_enter Tryd.func21, Tryd.ntmps21
      go_wp2
      go_ret
      exact ⟨E2_, D1_⟩

end Go.Proofs.YtfcifigemiafgaaDoor.PAll
