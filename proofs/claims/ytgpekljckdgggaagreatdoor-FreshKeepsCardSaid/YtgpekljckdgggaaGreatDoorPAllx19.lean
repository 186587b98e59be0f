import Derived.Test.YtgpekljckdgggaaGreatDoorPAllx0
import Derived.Test.YtgpekljckdgggaaGreatDoorPAllx5
import Derived.Test.YtgpekljckdgggaaGreatDoorPAllx11
import Derived.Test.YtgpekljckdgggaaGreatDoorPAllx12
import Derived.Test.YtgpekljckdgggaaGreatDoorPAllx18
namespace Go.Proofs.YtgpekljckdgggaaGreatDoor.PAll
open Go.RowKit Go.Proofs.YtgpekljckdgggaaGreatDoorW.PrintWords Go.Proofs.YtgpekljckdgggaaGreatDoorW.PrintLast Go.Proofs.YtgpekljckdgggaaGreatDoorW.PrintMore
attribute [local go_sem] max2_int min2_int max_two min_two max_three min_three max_four min_four   -- for this text's walks alone
set_option linter.unusedVariables false
set_option linter.unusedSimpArgs false

/-! ### pantrymade_Site: function 15 -/
def pantrymade_Site.f (a0_0 : ByteArray) (a0_1 : Int) (a0_2 : Int) (a0_3 : Int) (a0_4 : Bool) (a0_5 : Bool) (l0_6 : List ByteArray) : Option (ByteArray × Int × Int × Int × Bool × Bool × List ByteArray) := some (a0_0, a0_1, a0_2, a0_3, a0_4, a0_5, l0_6)
set_option maxHeartbeats 8000000 in
set_option maxRecDepth 100000 in
theorem pantrymade_Site.calls (a0_0 : ByteArray) (a0_1 : Int) (a0_2 : Int) (a0_3 : Int) (a0_4 : Bool) (a0_5 : Bool) (P0_6_ : Nat → Prop) (A0_6 : Option Addr) (c0_6 : Nat) (l0_6 : List ByteArray) (r1 : ByteArray) (r2 : Int) (r3 : Int) (r4 : Int) (r5 : Bool) (r6 : Bool) (r7 : List ByteArray) (w : World) (hs0_6 : Kd.V Kd.string 9 w w.heap.size (fun k_ => P0_6_ k_) (.slice A0_6 l0_6.length c0_6) l0_6) (h : pantrymade_Site.f a0_0 a0_1 a0_2 a0_3 a0_4 a0_5 l0_6 = some (r1, r2, r3, r4, r5, r6, r7)) :
  Calls Tryz.prog 15 #[.agg #[.string a0_0, .int .i64 a0_1, .int .i64 a0_2, .int .i64 a0_3, .bool a0_4, .bool a0_5, .slice A0_6 l0_6.length c0_6]] w fun e w' => ∃ v6_ : Value, e = .returned (.agg #[.string r1, .int .i64 r2, .int .i64 r3, .int .i64 r4, .bool r5, .bool r6, v6_]) ∧ Kd.V Kd.string 9 w' w.heap.size (fun k_ => (P0_6_ k_ ∨ w.heap.size ≤ k_)) v6_ r7 ∧ Below w.heap.size w w' := by
 have hu24 := Tryz.underlying24
 have hu32 := Tryz.underlying32
 have HO0_6 := Aside0.mk (show Kd.V Kd.string 9 w w.heap.size (fun k_ => (P0_6_ k_ ∨ w.heap.size ≤ k_)) (.slice A0_6 l0_6.length c0_6) l0_6 from Kd.V_mono hs0_6 (fun k_ hk => .inl hk))
 have HB := Aside0.mk (Below.refl w.heap.size w)
 have H : (some (a0_0, a0_1, a0_2, a0_3, a0_4, a0_5, l0_6)) = some (r1, r2, r3, r4, r5, r6, r7) := h
 clear h
 simp only [Option.some.injEq, Prod.mk.injEq] at H
 obtain ⟨rfl, rfl, rfl, rfl, rfl, rfl, rfl⟩ := H
 go_enter Tryz.func15, Tryz.ntmps15
 go_wp2_with (first | ((with_reducible refine gate_dst (N := 1) rfl ?_); refine box_event ?hg (N := 1) ?hd (cs := #[.string a0_0, .int .i64 a0_1, .int .i64 a0_2, .int .i64 a0_3, .bool a0_4, .bool a0_5, .slice A0_6 l0_6.length c0_6]) (t := 24) ?hr ?_; (case hd | hg => rfl); (case hr => exact S1_); intro gb422 hg w2 hbox hb; have BK422 := Aside0.mk (hbox); have GW422 := Aside0.mk ((Z1_ : w.heap.size ≤ gb422)); have GE422 := Aside0.mk ((Z1_ : w.heap.size ≤ gb422)); replace HO0_6 := Aside0.mk (Kd.V_below (Kd.V_elderB (by (with_reducible repeat (first | apply Kd.V_alloc | apply Kd.V_drewN | apply Kd.V_drew)); exact HO0_6.out) gb422 (Nat.le_of_eq hg.symm)) hb); replace HB := y1_ hb; clear hb hbox hg) | ((with_reducible refine gate_dst (N := 2) rfl ?_); refine box_event ?hg (N := 2) ?hd (cs := #[.string (⟨#[]⟩ : ByteArray), .int .i64 0, .int .i64 0, .int .i64 0, .bool false, .bool false, .slice none 0 0]) (t := 32) ?hr ?_; (case hd | hg => rfl); (case hr => exact S1_); intro gb423 hg w3 hbox hb; have BK423 := Aside0.mk (hbox); have GW423 := Aside0.mk ((Z2_ : w.heap.size ≤ gb423)); have GE423 := Aside0.mk ((Z2_ : w.heap.size ≤ gb423)); have NB422_423 := Aside0.mk ((by rw [hg]; exact Nat.ne_of_lt (blk_lt (B1_ BK422.out)) : gb422 ≠ gb423)); have NB423_422 := Aside0.mk ((by rw [hg]; exact Nat.ne_of_gt (blk_lt (B1_ BK422.out)) : gb423 ≠ gb422)); replace HO0_6 := Aside0.mk (Kd.V_below (Kd.V_elderB (by (with_reducible repeat (first | apply Kd.V_alloc | apply Kd.V_drewN | apply Kd.V_drew)); exact HO0_6.out) gb423 (Nat.le_of_eq hg.symm)) hb); replace BK422 := yB_ BK422 hb; replace HB := y2_ hb; clear hb hbox hg; have hnb4 := NB422_423.out; have hnc4 := NB423_422.out; obtain ⟨z5_0, z5_1, z5_2, z5_3, z5_4, z5_5, z5_6, y5_0, y5_1, y5_2, y5_3, y5_4, y5_5, y5_6⟩ := cz7_ BK422.out; obtain ⟨z6_0, z6_1, z6_2, z6_3, z6_4, z6_5, z6_6, y6_0, y6_1, y6_2, y6_3, y6_4, y6_5, y6_6⟩ := cz7_ BK423.out))
 refine bodyPost_ret (results_cell_row rfl _ _ gb423 32 #[.string a0_0, .int .i64 a0_1, .int .i64 a0_2, .int .i64 a0_3, .bool a0_4, .bool a0_5, .slice A0_6 l0_6.length c0_6] (0, 0) _ rfl (G1_ BK423.out) Tryz.underlying32 rfl (by kernel_rfl)) rfl ?_
 exact ⟨_, E1_, by (with_reducible repeat (first | apply Kd.V_alloc | apply Kd.V_drewN | apply Kd.V_drew)); exact Kd.V_mono (Kd.V_far (p := ⟨gb423, 6, none⟩) (Kd.V_far (p := ⟨gb423, 5, none⟩) (Kd.V_far (p := ⟨gb423, 4, none⟩) (Kd.V_far (p := ⟨gb423, 3, none⟩) (Kd.V_far (p := ⟨gb423, 2, none⟩) (Kd.V_far (p := ⟨gb423, 1, none⟩) (Kd.V_far (p := ⟨gb423, 0, none⟩) (Kd.V_mono HO0_6.out (fun k_ hk => (⟨hk, hk.2⟩ : _ ∧ k_ ≠ gb423))) (fun _ hk => hk.2) (.string a0_0)) (fun _ hk => hk.2) (.int .i64 a0_1)) (fun _ hk => hk.2) (.int .i64 a0_2)) (fun _ hk => hk.2) (.int .i64 a0_3)) (fun _ hk => hk.2) (.bool a0_4)) (fun _ hk => hk.2) (.bool a0_5)) (fun _ hk => hk.2) (.slice A0_6 l0_6.length c0_6)) (fun _ hk => hk.1.1.1), W2_⟩

/-! ### pantrymade_Fields: function 16 -/
def pantrymade_Fields.l0 : Nat → List (S70) → List (S46) → Int → Int → Option ((List (S70)))
 | 0, _, _, _, _ => none
 | k + 1, x3, x6, x7, x8 => if x8 < x7 then (if 0 ≤ x8 then (if x8 < (x6.length : Int) then (if x3.length < 4398046511104 then (pantrymade_Fields.l0 k (x3 ++ [(⟨(rd_T46 x6 x8).f0, (rd_T46 x6 x8).f1⟩ : S70)]) x6 x7 (wrap64 (x8 + 1))) else (none)) else (none)) else (none)) else (some x3)
def pantrymade_Fields.f (k : Nat) (l0 : List (S46)) : Option ((List (S70))) := pantrymade_Fields.l0 k ([] : List (S70)) l0 (l0.length : Int) 0
theorem pantrymade_Fields.mono_l : ∀ k, (∀ y0 y1 y2 y3, LeO (pantrymade_Fields.l0 k y0 y1 y2 y3) (pantrymade_Fields.l0 (k + 1) y0 y1 y2 y3))
 | 0 => fun _ _ _ _ r h => by simp [pantrymade_Fields.l0] at h
 | k + 1 => by
  have ih0 := pantrymade_Fields.mono_l k
  ·
   intro y0 y1 y2 y3
   unfold pantrymade_Fields.l0
   repeat' (with_reducible first | exact ih0 _ _ _ _ | exact lR_ | refine LeO.ite ?_ ?_ | refine LeO.bind ?_ (fun _ => ?_))
theorem pantrymade_Fields.mono : ∀ a0 k, LeO (pantrymade_Fields.f k a0) (pantrymade_Fields.f (k + 1) a0) := by
 intro a0 k
 have ih0 := pantrymade_Fields.mono_l k
 unfold pantrymade_Fields.f
 repeat' (with_reducible first | exact ih0 _ _ _ _ | exact lR_ | refine LeO.ite ?_ ?_ | refine LeO.bind ?_ (fun _ => ?_))
set_option maxHeartbeats 8000000 in
set_option maxRecDepth 100000 in
theorem pantrymade_Fields.calls (k : Nat) (A0 : Option Addr) (c0 : Nat) (l0 : List (S46)) (r : List (S70)) (w : World) (hr0 : Kd.C k46 w A0 l0.length l0) (hc0 : l0.length ≤ c0) (h : pantrymade_Fields.f k l0 = some r) :
  Calls Tryz.prog 16 #[.slice A0 l0.length c0] w fun e w' => ∃ v0_ : Value, e = .returned (v0_) ∧ Kd.R k70 70 w' w.heap.size (fun _ => True) v0_ r ∧ Below w.heap.size w w' := by
 have hu46 := Tryz.underlying46
 have HR0 := Aside0.mk hr0
 have HC0 := Aside0.mk hc0
 clear hr0 hc0
 have HB := Aside0.mk (Below.refl w.heap.size w)
 have H : (pantrymade_Fields.l0 k ([] : List (S70)) l0 (l0.length : Int) 0) = some r := h
 clear h
 have H' := Aside0.mk H
 clear H
 go_enter Tryz.func16, Tryz.ntmps16
 go_wp2
 go_loopg [3, 8] k (fun kq v3 v8 w' => ∃ (x3_1 : List (S70)) (x8_1 : Int), v8 = .int .i64 x8_1 ∧ Aside0 (pantrymade_Fields.l0 kq x3_1 l0 (l0.length : Int) x8_1 = some r) ∧ Aside0 (kq ≤ k) ∧ Aside0 (Kd.R k70 70 w' w.heap.size (fun _ => True) v3 x3_1) ∧ Aside0 (Below w.heap.size w w'))
 case atStart => exact ⟨(([] : List (S70))), (0), E3_, H', ⟨Nat.le_refl _⟩, ⟨by first | exact Kd.R_nil _ _ _ _ _ | exact Kd.N_nil _ _ _ _ _ | exact Kd.V_nil _ _ _ _ _ | exact Kd.Q_nil _ _ _ _ _ | exact Kd.S_nil _ _ _ _ _⟩, ⟨W1_⟩⟩
 case round =>
  clear H'
  obtain ⟨x3_1, x8_1, rfl, HA, HK1, HO_3, HB⟩ := hrel
  cases gk with
  | zero => exact absurd HA.out (by simp [pantrymade_Fields.l0])
  | succ k1 =>
   have H := HA.out
   clear HA
   simp only [pantrymade_Fields.l0] at H
   by_cases c2 : x8_1 < (l0.length : Int)
   ·
    rw [if_pos c2] at H
    have c2b0 : decide (x8_1 < (l0.length : Int)) = true := decide_eq_true c2
    clear c2
    by_cases c3 : 0 ≤ x8_1
    ·
     rw [if_pos c3] at H
     have c3b0 : decide (0 ≤ x8_1) = true := decide_eq_true c3
     clear c3
     by_cases c4 : x8_1 < (l0.length : Int)
     ·
      rw [if_pos c4] at H
      have c4b0 : decide (x8_1 < (l0.length : Int)) = true := decide_eq_true c4
      clear c4
      by_cases c5 : x3_1.length < 4398046511104
      ·
       rw [if_pos c5] at H
       have LMc5 := Aside0.mk c5
       clear c5
       obtain ⟨y426, hy426⟩ : ∃ y_ : List (S70), y_ = (x3_1 ++ [(⟨(rd_T46 l0 x8_1).f0, (rd_T46 l0 x8_1).f1⟩ : S70)]) := ⟨_, rfl⟩
       replace H : (pantrymade_Fields.l0 k1 y426 l0 (l0.length : Int) (wrap64 (x8_1 + 1))) = some r := by first | (rw [hy426]; with_reducible exact H) | (have H2_ := (Option.bind_some _ _).symm.trans H; rw [hy426]; with_reducible exact H2_) | (have H2_ := (Option.bind_some _ _).symm.trans H; with_reducible exact H2_) | with_reducible exact H | (rw [hy426]; exact H) | exact H
       have Ny426 := Aside0.mk hy426
       clear hy426
       have H' := Aside0.mk H
       clear H
       have p424 : 0 ≤ (x8_1 : Int) := oA_
       have q424 : x8_1 < (l0.length : Int) := oA_
       obtain ⟨ad424, e424, hx424_0, hx424_1⟩ := at_T46 HR0.out x8_1 p424 q424
       cases e424
       replace hx424_0 := (HB.out.cell (World.block_lt_of_cell? w _ hx424_0)).trans hx424_0
       replace hx424_1 := (HB.out.cell (World.block_lt_of_cell? w _ hx424_1)).trans hx424_1
       replace p424 := eq_true p424
       replace q424 := eq_true q424
       go_wp2_with (first | ((with_reducible refine gate_dst (N := 5) rfl ?_); refine box_event ?hg (N := 5) ?hd (cs := #[.string (⟨#[]⟩ : ByteArray), .string (⟨#[]⟩ : ByteArray)]) (t := 46) ?hr ?_; (case hd | hg => rfl); (case hr => exact S1_); intro gb425 hg w6 hbox hb; have BK425 := Aside0.mk (hbox); have GW425 := Aside0.mk ((Z1_ : w.heap.size ≤ gb425)); have GE425 := Aside0.mk ((Z1_ : w.heap.size ≤ gb425)); replace HO_3 := Aside0.mk (Kd.R_below (R1_ HO_3.out) hb); replace HB := y1_ hb; clear hb hbox hg; obtain ⟨z7_0, z7_1, y7_0, y7_1⟩ := cz2_ BK425.out) | ((with_reducible refine gate_builtin (b := .append) (xs := #[.tmp 12, .tmp 14]) rfl ?_); at_builtin; refine Kd.R_append k70 (w0 := w) w.heap.size rfl (.tmp 12) (.tmp 14) 34 70 (.agg #[(.string ⟨#[]⟩), (.string ⟨#[]⟩)]) 32 rfl Tryz.underlying34 info70 rfl (by decide) (by omega) u3 x3_1 (⟨(rd_T46 l0 x8_1).f0, (rd_T46 l0 x8_1).f1⟩ : S70) [.string ((rd_T46 l0 x8_1).f0), .string ((rd_T46 l0 x8_1).f1)] (fun _ => True) (fun _ => False) rfl (by first | (go_simp; done) | (go_simp; rfl)) ?aP (fun _ hk => hk.elim) ?aF ?aO ?aB ?aS ?aL ?_; (case aP => exact k70_mkM _ _ _ (⟨(rd_T46 l0 x8_1).f0, (rd_T46 l0 x8_1).f1⟩ : S70)); (case aB => exact W2_); (case aF => exact (fun _ _ => trivial)); (case aO => exact (by refine R1_ ?_; exact Kd.R_mono (Kd.R_far (p := ⟨gb425, 1, none⟩) (Kd.R_far (p := ⟨gb425, 0, none⟩) (Kd.R_types HO_3.out BK425.out (by decide)) (fun _ hk => hk.2) (.string ((rd_T46 l0 x8_1).f0))) (fun _ hk => hk.2) (.string ((rd_T46 l0 x8_1).f1))) (fun _ hk => trivial))); (case aS => exact (below_size W2_)); (case aL => have := LMc5.out; omega); intro v427 w8 ho hb hg hat; rw [← Ny426.out] at ho; have n0_ := Aside0.mk (blk_grown (g := gb425) (o := .cells #[.string ((rd_T46 l0 x8_1).f0), .string ((rd_T46 l0 x8_1).f1)] 46 (0, 0)) (G1_ BK425.out) hg (Kd.R_ne HO_3.out BK425.out (by decide))); have n1_ := Aside0.mk (hb); have n2_ := Aside0.mk (ho); clear BK425; clear HB; clear HO_3; have BK425 := n0_; have HB := n1_; have HO428 := n2_; clear n0_ n1_ n2_; clear ho hb hg hat))
       go_roundg k1
       case measure => have := HK1.out; omega
       case rel => exact ⟨(y426), (wrap64 (x8_1 + 1)), E3_, H', ⟨by have := HK1.out; omega⟩, ⟨R1_ HO428.out⟩, ⟨W2_⟩⟩
      ·
       rw [if_neg c5] at H
       exact absurd H (by simp)
     ·
      rw [if_neg c4] at H
      exact absurd H (by simp)
    ·
     rw [if_neg c3] at H
     exact absurd H (by simp)
   ·
    rw [if_neg c2] at H
    have c2b0 : decide (x8_1 < (l0.length : Int)) = false := decide_eq_false c2
    clear c2
    obtain rfl := Option.some.inj H
    go_wp2
    go_ret
    exact ⟨_, E1_, by refine R1_ ?_; exact HO_3.out, W1_⟩

/-! ### pantrylaw12_FreshKeeps: function 3 -/
def pantrylaw12_FreshKeeps.j0 : Nat → ByteArray → List (S46) → Int → List (S46) → Bool → ByteArray → Int → Int → Int → Bool → Bool → List ByteArray → Option (Bool)
 | 0, _, _, _, _, _, _, _, _, _, _, _, _ => none
 | k + 1, x1, x2, x3, x4, x30, x430000, x430001, x430002, x430003, x430004, x430005, x430006 => if x30 = true then (some true) else ((fresh_Kept.f k x430000 x430001 x430002 x430003 x430004 x430005 x430006 x1 x2 x3 x4).bind fun t434 => ((pantrymade_Site.f x430000 x430001 x430002 x430003 x430004 x430005 x430006).bind fun bt435 => ((pantrymade_Fields.f k x2).bind fun t444 => ((pantrymade_Fields.f k x4).bind fun t447 => ((pantryref12_Kept.f k bt435.1 bt435.2.1 bt435.2.2.1 bt435.2.2.2.1 bt435.2.2.2.2.1 bt435.2.2.2.2.2.1 bt435.2.2.2.2.2.2 x1 t444 x3 t447).bind fun t450 => (some (t434 == t450)))))))
def pantrylaw12_FreshKeeps.f (k : Nat) (a0_0 : ByteArray) (a0_1 : Int) (a0_2 : Int) (a0_3 : Int) (a0_4 : Bool) (a0_5 : Bool) (l0_6 : List ByteArray) (a1 : ByteArray) (l2 : List (S46)) (a3 : Int) (l4 : List (S46)) : Option (Bool) := (pantrylaw12_anchor.f k).bind fun t430 => (if t430 = true then ((pantrylaw12_fit.f k a0_0 a0_1 a0_2 a0_3 a0_4 a0_5 l0_6).bind fun t431 => (if t431 = true then ((pantrylaw12_small.f k l2).bind fun t432 => (if t432 = true then ((pantrylaw12_small.f k l4).bind fun t433 => (if t433 = true then (pantrylaw12_FreshKeeps.j0 k a1 l2 a3 l4 (decide ((a1.size : Int) > 30)) a0_0 a0_1 a0_2 a0_3 a0_4 a0_5 l0_6) else (pantrylaw12_FreshKeeps.j0 k a1 l2 a3 l4 true a0_0 a0_1 a0_2 a0_3 a0_4 a0_5 l0_6))) else (pantrylaw12_FreshKeeps.j0 k a1 l2 a3 l4 true a0_0 a0_1 a0_2 a0_3 a0_4 a0_5 l0_6))) else (pantrylaw12_FreshKeeps.j0 k a1 l2 a3 l4 true a0_0 a0_1 a0_2 a0_3 a0_4 a0_5 l0_6))) else (none))
theorem pantrylaw12_FreshKeeps.mono_l : ∀ k, (∀ y0 y1 y2 y3 y4 y5 y6 y7 y8 y9 y10 y11, LeO (pantrylaw12_FreshKeeps.j0 k y0 y1 y2 y3 y4 y5 y6 y7 y8 y9 y10 y11) (pantrylaw12_FreshKeeps.j0 (k + 1) y0 y1 y2 y3 y4 y5 y6 y7 y8 y9 y10 y11))
 | 0 => fun _ _ _ _ _ _ _ _ _ _ _ _ r h => by simp [pantrylaw12_FreshKeeps.j0] at h
 | k + 1 => by
  have ih0 := pantrylaw12_FreshKeeps.mono_l k
  ·
   intro y0 y1 y2 y3 y4 y5 y6 y7 y8 y9 y10 y11
   unfold pantrylaw12_FreshKeeps.j0
   repeat' (with_reducible first | exact ih0 _ _ _ _ _ _ _ _ _ _ _ _ | exact fresh_Kept.mono _ _ _ _ _ _ _ _ _ _ _ _ | exact pantrylaw12_anchor.mono _ | exact pantrylaw12_fit.mono _ _ _ _ _ _ _ _ | exact pantrylaw12_small.mono _ _ | exact pantrymade_Fields.mono _ _ | exact pantryref12_Kept.mono _ _ _ _ _ _ _ _ _ _ _ _ | exact lR_ | refine LeO.ite ?_ ?_ | refine LeO.bind ?_ (fun _ => ?_))
theorem pantrylaw12_FreshKeeps.mono : ∀ a0 a1 a2 a3 a4 a5 a6 a7 a8 a9 a10 k, LeO (pantrylaw12_FreshKeeps.f k a0 a1 a2 a3 a4 a5 a6 a7 a8 a9 a10) (pantrylaw12_FreshKeeps.f (k + 1) a0 a1 a2 a3 a4 a5 a6 a7 a8 a9 a10) := by
 intro a0 a1 a2 a3 a4 a5 a6 a7 a8 a9 a10 k
 have ih0 := pantrylaw12_FreshKeeps.mono_l k
 unfold pantrylaw12_FreshKeeps.f
 repeat' (with_reducible first | exact ih0 _ _ _ _ _ _ _ _ _ _ _ _ | exact fresh_Kept.mono _ _ _ _ _ _ _ _ _ _ _ _ | exact pantrylaw12_anchor.mono _ | exact pantrylaw12_fit.mono _ _ _ _ _ _ _ _ | exact pantrylaw12_small.mono _ _ | exact pantrymade_Fields.mono _ _ | exact pantryref12_Kept.mono _ _ _ _ _ _ _ _ _ _ _ _ | exact lR_ | refine LeO.ite ?_ ?_ | refine LeO.bind ?_ (fun _ => ?_))
def pantrylaw12_FreshKeeps.T5 : Bool × List (List Nat × List Nat) := (true, [([], []), ([], []), ([], []), ([], []), ([], []), ([0, 1, 2, 3, 4], [0, 1, 2, 3, 4]), ([], []), ([6, 5], [6]), ([], []), ([], []), ([9, 7], [9]), ([], []), ([], []), ([12, 10], [12]), ([7, 8, 10, 11, 13, 13], [7, 8, 10, 11, 13]), ([5, 14], [5, 14]), ([15, 14, 0, 1, 2, 3, 4, 5, 6, 7, 8, 9, 10, 11, 12, 13, 14, 15], [15])])
def pantrylaw12_FreshKeeps.B5 : List Nat := [0, 0, 0, 0, 0, 31, 0, 127, 0, 0, 767, 0, 0, 5887, 16383, 32767, 65535]
theorem pantrylaw12_FreshKeeps.tab5 : rtab .any (opsOf Tryz.f3 5) = pantrylaw12_FreshKeeps.T5 := by kernel_rfl
theorem pantrylaw12_FreshKeeps.bits5 : waitsOk pantrylaw12_FreshKeeps.T5.2 pantrylaw12_FreshKeeps.B5 = true := by kernel_rfl
set_option maxHeartbeats 8000000 in
set_option maxRecDepth 100000 in
theorem pantrylaw12_FreshKeeps.calls (k : Nat) (a0_0 : ByteArray) (a0_1 : Int) (a0_2 : Int) (a0_3 : Int) (a0_4 : Bool) (a0_5 : Bool) (A0_6 : Option Addr) (c0_6 : Nat) (l0_6 : List ByteArray) (a1 : ByteArray) (A2 : Option Addr) (c2 : Nat) (l2 : List (S46)) (a3 : Int) (A4 : Option Addr) (c4 : Nat) (l4 : List (S46)) (r : Bool) (w : World) (hr0_6 : Kd.C Kd.string w A0_6 l0_6.length l0_6) (hc0_6 : l0_6.length ≤ c0_6) (hr2 : Kd.C k46 w A2 l2.length l2) (hc2 : l2.length ≤ c2) (hr4 : Kd.C k46 w A4 l4.length l4) (hc4 : l4.length ≤ c4) (hrW : WF w) (h : pantrylaw12_FreshKeeps.f k a0_0 a0_1 a0_2 a0_3 a0_4 a0_5 l0_6 a1 l2 a3 l4 = some r) :
  Calls Tryz.prog 3 #[.agg #[.string a0_0, .int .i64 a0_1, .int .i64 a0_2, .int .i64 a0_3, .bool a0_4, .bool a0_5, .slice A0_6 l0_6.length c0_6], .string a1, .slice A2 l2.length c2, .int .i64 a3, .slice A4 l4.length c4] w fun e w' => e = .returned (.bool r) ∧ Below w.heap.size w w' := by
 have hu24 := Tryz.underlying24
 have HRW := Aside0.mk hrW
 clear hrW
 have HR0_6 := Aside0.mk hr0_6
 have HC0_6 := Aside0.mk hc0_6
 clear hr0_6 hc0_6
 have HR2 := Aside0.mk hr2
 have HC2 := Aside0.mk hc2
 clear hr2 hc2
 have HR4 := Aside0.mk hr4
 have HC4 := Aside0.mk hc4
 clear hr4 hc4
 have HB := Aside0.mk (Below.refl w.heap.size w)
 have H : ((pantrylaw12_anchor.f k).bind fun t430 => (if t430 = true then ((pantrylaw12_fit.f k a0_0 a0_1 a0_2 a0_3 a0_4 a0_5 l0_6).bind fun t431 => (if t431 = true then ((pantrylaw12_small.f k l2).bind fun t432 => (if t432 = true then ((pantrylaw12_small.f k l4).bind fun t433 => (if t433 = true then (pantrylaw12_FreshKeeps.j0 k a1 l2 a3 l4 (decide ((a1.size : Int) > 30)) a0_0 a0_1 a0_2 a0_3 a0_4 a0_5 l0_6) else (pantrylaw12_FreshKeeps.j0 k a1 l2 a3 l4 true a0_0 a0_1 a0_2 a0_3 a0_4 a0_5 l0_6))) else (pantrylaw12_FreshKeeps.j0 k a1 l2 a3 l4 true a0_0 a0_1 a0_2 a0_3 a0_4 a0_5 l0_6))) else (pantrylaw12_FreshKeeps.j0 k a1 l2 a3 l4 true a0_0 a0_1 a0_2 a0_3 a0_4 a0_5 l0_6))) else (none))) = some r := h
 clear h
 obtain ⟨t430, A6, H⟩ := bS_ H
 try dsimp only at H
 by_cases c7 : t430 = true
 ·
  subst c7
  rw [if_pos rfl] at H
  have HC8 := Aside0.mk H
  clear H
  go_enter Tryz.func3, Tryz.ntmps3
  go_upto_region 3 with (first | ((with_reducible refine gate_dst (N := 5) rfl ?_); (try (refine gate_guard (by rfl) ?_; dsimp only)); refine box_event ?hg (N := 5) ?hd (cs := #[.string a0_0, .int .i64 a0_1, .int .i64 a0_2, .int .i64 a0_3, .bool a0_4, .bool a0_5, .slice A0_6 l0_6.length c0_6]) (t := 24) ?hr ?_; (case hd | hg => rfl); (case hr => exact S1_); intro gb429 hg w9 hbox hb; have BK429 := Aside0.mk (hbox); have GW429 := Aside0.mk ((Z1_ : w.heap.size ≤ gb429)); have GE429 := Aside0.mk ((Z1_ : w.heap.size ≤ gb429)); replace HB := y1_ hb; clear hb hbox hg) | ((with_reducible refine gate_callee (f := 10) rfl ?_); refine goesL_ (some 11) rfl rfl Tryz.func10 (by kernel_rfl) rfl #[] rfl T1_ ?_; (with_reducible refine (pantrylaw12_anchor.calls k  true _ ?side1 A6.out).mono ?_); (case side1 => exact C1_ ((WF.below HRW.out HB.out))); rintro e w10 ⟨rfl, hb⟩; refine ⟨_, rfl, ?_⟩; replace BK429 := yB_ BK429 hb; replace HB := y2_ hb; (try clear hb)))
  (try simp only [Act.put, sA_, sZ_, sS_])
  go_cut [30] (fun v30 wc => ∃ (kq : Nat) (x30_7 : Bool), v30 = .bool x30_7 ∧ Aside0 (pantrylaw12_FreshKeeps.j0 kq a1 l2 a3 l4 x30_7 a0_0 a0_1 a0_2 a0_3 a0_4 a0_5 l0_6 = some r) ∧ Aside0 (kq ≤ k) ∧ Aside0 (wc.heap[gb429]? = some (.cells #[.string a0_0, .int .i64 a0_1, .int .i64 a0_2, .int .i64 a0_3, .bool a0_4, .bool a0_5, (.slice A0_6 l0_6.length c0_6)] 24 (0, 0))) ∧ Aside0 (Below w.heap.size w wc))
  case first =>
   have H := HC8.out
   clear HC8
   obtain ⟨t431, A11, H⟩ := bS_ H
   try dsimp only at H
   by_cases c12 : t431 = true
   ·
    subst c12
    rw [if_pos rfl] at H
    obtain ⟨t432, A13, H⟩ := bS_ H
    try dsimp only at H
    by_cases c14 : t432 = true
    ·
     subst c14
     rw [if_pos rfl] at H
     obtain ⟨t433, A15, H⟩ := bS_ H
     try dsimp only at H
     by_cases c16 : t433 = true
     ·
      subst c16
      rw [if_pos rfl] at H
      have H' := Aside0.mk H
      clear H
      obtain ⟨z17_0, z17_1, z17_2, z17_3, z17_4, z17_5, z17_6, y17_0, y17_1, y17_2, y17_3, y17_4, y17_5, y17_6⟩ := cz7_ BK429.out
      go_wp2_with (first | ((with_reducible refine gate_callee (f := 11) rfl ?_); refine goesL_ (some 14) rfl rfl Tryz.func11 (by kernel_rfl) rfl #[.agg #[.string a0_0, .int .i64 a0_1, .int .i64 a0_2, .int .i64 a0_3, .bool a0_4, .bool a0_5, .slice A0_6 l0_6.length c0_6]] rfl T1_ ?_; (with_reducible refine (pantrylaw12_fit.calls k a0_0 a0_1 a0_2 a0_3 a0_4 a0_5 (fun k_ => k_ < w.heap.size) _ _ l0_6 true _ ?side1 A11.out).mono ?_); (case side1 => exact Kd.V_mk HC0_6.out (Kd.F_below (Kd.C_F Kd.heap_string HR0_6.out) W2_)); rintro e w18 ⟨rfl, hb⟩; refine ⟨_, rfl, ?_⟩; replace BK429 := yB_ BK429 hb; replace HB := y2_ hb; (try clear hb)) | (go_at_call 12; (with_reducible refine (pantrylaw12_small.calls k _ _ l2 true _ ?side1 ?side2 A13.out).mono ?_); (case side1 => exact C1_ ((Kd.C_below HR2.out HB.out))); (case side2 => exact HC2.out); rintro e w19 ⟨rfl, hb⟩; replace BK429 := yB_ BK429 hb; replace HB := y2_ hb; (try clear hb)) | (go_at_call 12; (with_reducible refine (pantrylaw12_small.calls k _ _ l4 true _ ?side1 ?side2 A15.out).mono ?_); (case side1 => exact C1_ ((Kd.C_below HR4.out HB.out))); (case side2 => exact HC4.out); rintro e w20 ⟨rfl, hb⟩; replace BK429 := yB_ BK429 hb; replace HB := y2_ hb; (try clear hb)))
      go_meet
      case rel => exact ⟨_, (decide ((a1.size : Int) > 30)), E3_, H', ⟨by first | omega | exact Nat.le_refl _⟩, ⟨B1_ BK429.out⟩, ⟨W2_⟩⟩
     ·
      replace c16 := Bool.eq_false_iff.mpr c16
      subst c16
      rw [if_neg (show ¬ (false = true) by decide)] at H
      have H' := Aside0.mk H
      clear H
      obtain ⟨z21_0, z21_1, z21_2, z21_3, z21_4, z21_5, z21_6, y21_0, y21_1, y21_2, y21_3, y21_4, y21_5, y21_6⟩ := cz7_ BK429.out
      go_wp2_with (first | ((with_reducible refine gate_callee (f := 11) rfl ?_); refine goesL_ (some 14) rfl rfl Tryz.func11 (by kernel_rfl) rfl #[.agg #[.string a0_0, .int .i64 a0_1, .int .i64 a0_2, .int .i64 a0_3, .bool a0_4, .bool a0_5, .slice A0_6 l0_6.length c0_6]] rfl T1_ ?_; (with_reducible refine (pantrylaw12_fit.calls k a0_0 a0_1 a0_2 a0_3 a0_4 a0_5 (fun k_ => k_ < w.heap.size) _ _ l0_6 true _ ?side1 A11.out).mono ?_); (case side1 => exact Kd.V_mk HC0_6.out (Kd.F_below (Kd.C_F Kd.heap_string HR0_6.out) W2_)); rintro e w22 ⟨rfl, hb⟩; refine ⟨_, rfl, ?_⟩; replace BK429 := yB_ BK429 hb; replace HB := y2_ hb; (try clear hb)) | (go_at_call 12; (with_reducible refine (pantrylaw12_small.calls k _ _ l2 true _ ?side1 ?side2 A13.out).mono ?_); (case side1 => exact C1_ ((Kd.C_below HR2.out HB.out))); (case side2 => exact HC2.out); rintro e w23 ⟨rfl, hb⟩; replace BK429 := yB_ BK429 hb; replace HB := y2_ hb; (try clear hb)) | (go_at_call 12; (with_reducible refine (pantrylaw12_small.calls k _ _ l4 false _ ?side1 ?side2 A15.out).mono ?_); (case side1 => exact C1_ ((Kd.C_below HR4.out HB.out))); (case side2 => exact HC4.out); rintro e w24 ⟨rfl, hb⟩; replace BK429 := yB_ BK429 hb; replace HB := y2_ hb; (try clear hb)))
      go_meet
      case rel => exact ⟨_, (true), E3_, H', ⟨by first | omega | exact Nat.le_refl _⟩, ⟨B1_ BK429.out⟩, ⟨W2_⟩⟩
    ·
     replace c14 := Bool.eq_false_iff.mpr c14
     subst c14
     rw [if_neg (show ¬ (false = true) by decide)] at H
     have H' := Aside0.mk H
     clear H
     obtain ⟨z25_0, z25_1, z25_2, z25_3, z25_4, z25_5, z25_6, y25_0, y25_1, y25_2, y25_3, y25_4, y25_5, y25_6⟩ := cz7_ BK429.out
     go_wp2_with (first | ((with_reducible refine gate_callee (f := 11) rfl ?_); refine goesL_ (some 14) rfl rfl Tryz.func11 (by kernel_rfl) rfl #[.agg #[.string a0_0, .int .i64 a0_1, .int .i64 a0_2, .int .i64 a0_3, .bool a0_4, .bool a0_5, .slice A0_6 l0_6.length c0_6]] rfl T1_ ?_; (with_reducible refine (pantrylaw12_fit.calls k a0_0 a0_1 a0_2 a0_3 a0_4 a0_5 (fun k_ => k_ < w.heap.size) _ _ l0_6 true _ ?side1 A11.out).mono ?_); (case side1 => exact Kd.V_mk HC0_6.out (Kd.F_below (Kd.C_F Kd.heap_string HR0_6.out) W2_)); rintro e w26 ⟨rfl, hb⟩; refine ⟨_, rfl, ?_⟩; replace BK429 := yB_ BK429 hb; replace HB := y2_ hb; (try clear hb)) | (go_at_call 12; (with_reducible refine (pantrylaw12_small.calls k _ _ l2 false _ ?side1 ?side2 A13.out).mono ?_); (case side1 => exact C1_ ((Kd.C_below HR2.out HB.out))); (case side2 => exact HC2.out); rintro e w27 ⟨rfl, hb⟩; replace BK429 := yB_ BK429 hb; replace HB := y2_ hb; (try clear hb)))
     go_meet
     case rel => exact ⟨_, (true), E3_, H', ⟨by first | omega | exact Nat.le_refl _⟩, ⟨B1_ BK429.out⟩, ⟨W2_⟩⟩
   ·
    replace c12 := Bool.eq_false_iff.mpr c12
    subst c12
    rw [if_neg (show ¬ (false = true) by decide)] at H
    have H' := Aside0.mk H
    clear H
    obtain ⟨z28_0, z28_1, z28_2, z28_3, z28_4, z28_5, z28_6, y28_0, y28_1, y28_2, y28_3, y28_4, y28_5, y28_6⟩ := cz7_ BK429.out
    go_wp2_with (first | ((with_reducible refine gate_callee (f := 11) rfl ?_); refine goesL_ (some 14) rfl rfl Tryz.func11 (by kernel_rfl) rfl #[.agg #[.string a0_0, .int .i64 a0_1, .int .i64 a0_2, .int .i64 a0_3, .bool a0_4, .bool a0_5, .slice A0_6 l0_6.length c0_6]] rfl T1_ ?_; (with_reducible refine (pantrylaw12_fit.calls k a0_0 a0_1 a0_2 a0_3 a0_4 a0_5 (fun k_ => k_ < w.heap.size) _ _ l0_6 false _ ?side1 A11.out).mono ?_); (case side1 => exact Kd.V_mk HC0_6.out (Kd.F_below (Kd.C_F Kd.heap_string HR0_6.out) W2_)); rintro e w29 ⟨rfl, hb⟩; refine ⟨_, rfl, ?_⟩; replace BK429 := yB_ BK429 hb; replace HB := y2_ hb; (try clear hb)))
    go_meet
    case rel => exact ⟨_, (true), E3_, H', ⟨by first | omega | exact Nat.le_refl _⟩, ⟨B1_ BK429.out⟩, ⟨W2_⟩⟩
  case rest =>
   clear HC8
   (try clear c2); (try clear c4); (try clear c7); (try clear c12); (try clear c14); (try clear c16); (try clear z17_0 z17_1 z17_2 z17_3 z17_4 z17_5 z17_6 y17_0 y17_1 y17_2 y17_3 y17_4 y17_5 y17_6); (try clear z21_0 z21_1 z21_2 z21_3 z21_4 z21_5 z21_6 y21_0 y21_1 y21_2 y21_3 y21_4 y21_5 y21_6); (try clear z25_0 z25_1 z25_2 z25_3 z25_4 z25_5 z25_6 y25_0 y25_1 y25_2 y25_3 y25_4 y25_5 y25_6); (try clear z28_0 z28_1 z28_2 z28_3 z28_4 z28_5 z28_6 y28_0 y28_1 y28_2 y28_3 y28_4 y28_5 y28_6)
   obtain ⟨kq, x30_7, rfl, HA, HJ7, BK429, HB⟩ := hcut
   cases kq with
   | zero => exact absurd HA.out (by simp [pantrylaw12_FreshKeeps.j0])
   | succ kj7 =>
    have H := HA.out
    clear HA
    simp only [pantrylaw12_FreshKeeps.j0] at H
    by_cases c30 : x30_7 = true
    ·
     subst c30
     rw [if_pos rfl] at H
     obtain rfl := Option.some.inj H
     go_wp2
     go_ret
     exact ⟨E1_, W2_⟩
    ·
     replace c30 := Bool.eq_false_iff.mpr c30
     subst c30
     rw [if_neg (show ¬ (false = true) by decide)] at H
     obtain ⟨t434, A31, H⟩ := bS_ H
     try dsimp only at H
     obtain ⟨⟨t435, t436, t437, t438, t439, t440, t441⟩, A32, H⟩ := bS_ H
     try dsimp only at H
     obtain ⟨t444, A33, H⟩ := bS_ H
     try dsimp only at H
     obtain ⟨t447, A34, H⟩ := bS_ H
     try dsimp only at H
     obtain ⟨t450, A35, H⟩ := bS_ H
     try dsimp only at H
     obtain rfl := Option.some.inj H
     try go_wp2
     have n0_ := Aside0.mk (bD_ BK429.out)
     have n1_ := Aside0.mk (zD_ HB.out)
     clear BK429
     clear HB
     have BK429 := n0_
     have HB := n1_
     clear n0_ n1_
     refine start_ (n := 17) (S := fun w' => w'.cell? ⟨gb429, 0, none⟩ = some (.string a0_0) ∧ w'.cell? ⟨gb429, 1, none⟩ = some (.int .i64 a0_1) ∧ w'.cell? ⟨gb429, 2, none⟩ = some (.int .i64 a0_2) ∧ w'.cell? ⟨gb429, 3, none⟩ = some (.int .i64 a0_3) ∧ w'.cell? ⟨gb429, 4, none⟩ = some (.bool a0_4) ∧ w'.cell? ⟨gb429, 5, none⟩ = some (.bool a0_5) ∧ w'.cell? ⟨gb429, 6, none⟩ = some (.slice A0_6 l0_6.length c0_6)) (ds := []) #[false, false, false, false, false, false, false, false, false, false, false, false, false, false, false, false, false] (by kernel_rfl) rfl rfl ⟨xC_ BK429.out 0, xC_ BK429.out 1, xC_ BK429.out 2, xC_ BK429.out 3, xC_ BK429.out 4, xC_ BK429.out 5, xC_ BK429.out 6⟩ (fun hHeld => ?_); refine with_tabW pantrylaw12_FreshKeeps.tab5 pantrylaw12_FreshKeeps.bits5 (fun HT_ HW_ => ?_)
     generalize wc.drew = w36 at BK429 HB hHeld ⊢
     refine pure_ (i := 1) (N := some 32) (v := ?_) (a' := ?_) #[false, true, false, false, false, false, false, false, false, false, false, false, false, false, false, false, false] rfl rfl (any_of HT_.out (by kernel_rfl)) (fun _ _ _ h => h) (Or.inl ⟨by rfl, ?_⟩) ?_ ?_
     rotate_left
     ·
      intro w'
      go_simp
      with_reducible rfl
     rotate_left
     ·
      simp only [Act.put, sA_, sZ_, sS_, i64_w, i32_w]
      rfl
     refine pure_ (i := 2) (N := some 33) (v := ?_) (a' := ?_) #[false, true, true, false, false, false, false, false, false, false, false, false, false, false, false, false, false] rfl rfl (any_of HT_.out (by kernel_rfl)) (fun _ _ _ h => h) (Or.inl ⟨by rfl, ?_⟩) ?_ ?_
     rotate_left
     ·
      intro w'
      go_simp
      with_reducible rfl
     rotate_left
     ·
      simp only [Act.put, sA_, sZ_, sS_, i64_w, i32_w]
      rfl
     refine pure_ (i := 3) (N := some 34) (v := ?_) (a' := ?_) #[false, true, true, true, false, false, false, false, false, false, false, false, false, false, false, false, false] rfl rfl (any_of HT_.out (by kernel_rfl)) (fun _ _ _ h => h) (Or.inl ⟨by rfl, ?_⟩) ?_ ?_
     rotate_left
     ·
      intro w'
      go_simp
      with_reducible rfl
     rotate_left
     ·
      simp only [Act.put, sA_, sZ_, sS_, i64_w, i32_w]
      rfl
     refine pure_ (i := 4) (N := some 35) (v := ?_) (a' := ?_) #[false, true, true, true, true, false, false, false, false, false, false, false, false, false, false, false, false] rfl rfl (any_of HT_.out (by kernel_rfl)) (fun _ _ _ h => h) (Or.inl ⟨by rfl, ?_⟩) ?_ ?_
     rotate_left
     ·
      intro w'
      go_simp
      with_reducible rfl
     rotate_left
     ·
      simp only [Act.put, sA_, sZ_, sS_, i64_w, i32_w]
      rfl
     refine pure_ (i := 8) (N := some 39) (v := ?_) (a' := ?_) #[false, true, true, true, true, false, false, false, true, false, false, false, false, false, false, false, false] rfl rfl (any_of HT_.out (by kernel_rfl)) (fun _ _ _ h => h) (Or.inl ⟨by rfl, ?_⟩) ?_ ?_
     rotate_left
     ·
      intro w'
      go_simp
      with_reducible rfl
     rotate_left
     ·
      simp only [Act.put, sA_, sZ_, sS_, i64_w, i32_w]
      rfl
     refine pure_ (i := 9) (N := some 40) (v := ?_) (a' := ?_) #[false, true, true, true, true, false, false, false, true, true, false, false, false, false, false, false, false] rfl rfl (any_of HT_.out (by kernel_rfl)) (fun _ _ _ h => h) (Or.inl ⟨by rfl, ?_⟩) ?_ ?_
     rotate_left
     ·
      intro w'
      go_simp
      with_reducible rfl
     rotate_left
     ·
      simp only [Act.put, sA_, sZ_, sS_, i64_w, i32_w]
      rfl
     refine pure_ (i := 11) (N := some 42) (v := ?_) (a' := ?_) #[false, true, true, true, true, false, false, false, true, true, false, true, false, false, false, false, false] rfl rfl (any_of HT_.out (by kernel_rfl)) (fun _ _ _ h => h) (Or.inl ⟨by rfl, ?_⟩) ?_ ?_
     rotate_left
     ·
      intro w'
      go_simp
      with_reducible rfl
     rotate_left
     ·
      simp only [Act.put, sA_, sZ_, sS_, i64_w, i32_w]
      rfl
     refine pure_ (i := 12) (N := some 43) (v := ?_) (a' := ?_) #[false, true, true, true, true, false, false, false, true, true, false, true, true, false, false, false, false] rfl rfl (any_of HT_.out (by kernel_rfl)) (fun _ _ _ h => h) (Or.inl ⟨by rfl, ?_⟩) ?_ ?_
     rotate_left
     ·
      intro w'
      go_simp
      with_reducible rfl
     rotate_left
     ·
      simp only [Act.put, sA_, sZ_, sS_, i64_w, i32_w]
      rfl
     refine take_ (i := 0) (N := some 31) (v := ?_) (a' := ?_) #[true, true, true, true, true, false, false, false, true, true, false, true, true, false, false, false, false] rfl rfl (take_ofW HT_.out HW_.out (by kernel_rfl)) (fun _ _ _ h => h) (Or.inl ⟨by rfl, ?_⟩) hHeld ?_ ?_
     rotate_left
     ·
      rintro w' ⟨s0, s1, s2, s3, s4, s5, s6⟩
      go_simp
      with_reducible rfl
     rotate_left
     ·
      simp only [Act.put, sA_, sZ_, sS_, i64_w, i32_w]
      rfl
     refine take_ (i := 6) (N := some 37) (v := ?_) (a' := ?_) #[true, true, true, true, true, false, true, false, true, true, false, true, true, false, false, false, false] rfl rfl (take_ofW HT_.out HW_.out (by kernel_rfl)) (fun _ _ _ h => h) (Or.inl ⟨by rfl, ?_⟩) hHeld ?_ ?_
     rotate_left
     ·
      rintro w' ⟨s0, s1, s2, s3, s4, s5, s6⟩
      go_simp
      with_reducible rfl
     rotate_left
     ·
      simp only [Act.put, sA_, sZ_, sS_, i64_w, i32_w]
      rfl
     refine one_ (i := 5) (N := some 36) #[true, true, true, true, true, true, true, false, true, true, false, true, true, false, false, false, false] rfl rfl (one_of HT_.out (by kernel_rfl)) (by decide) (fun K hK => ?_)
     refine goes_ Tryz.func13 (by kernel_rfl) rfl #[.agg #[.string a0_0, .int .i64 a0_1, .int .i64 a0_2, .int .i64 a0_3, .bool a0_4, .bool a0_5, .slice A0_6 l0_6.length c0_6], .string a1, .slice A2 l2.length c2, .int .i64 a3, .slice A4 l4.length c4] (by rfl) rfl rfl T1_ ?_
     with_reducible refine (fresh_Kept.calls kj7 a0_0 a0_1 a0_2 a0_3 a0_4 a0_5 _ _ l0_6 a1 _ _ l2 a3 _ _ l4 t434 _ ?side1 ?side2 ?side3 ?side4 ?side5 ?side6 A31.out).mono ?_
     (case side1 => exact C1_ ((Kd.C_below HR0_6.out HB.out)))
     (case side2 => exact HC0_6.out)
     (case side3 => exact C1_ ((Kd.C_below HR2.out HB.out)))
     (case side4 => exact HC2.out)
     (case side5 => exact C1_ ((Kd.C_below HR4.out HB.out)))
     (case side6 => exact HC4.out)
     rintro e w37 ⟨rfl, hb⟩
     refine ⟨_, rfl, ?_⟩
     have n0_ := Aside0.mk (blk_below (B1_ BK429.out) hb)
     have n1_ := Aside0.mk (below_step W2_ hb)
     clear BK429
     clear HB
     have BK429 := n0_
     have HB := n1_
     clear n0_ n1_
     (try clear hb)
     (try clear hb2)
     (try clear hk)
     (try clear hi)
     refine hK.out _ _ ⟨xC_ BK429.out 0, xC_ BK429.out 1, xC_ BK429.out 2, xC_ BK429.out 3, xC_ BK429.out 4, xC_ BK429.out 5, xC_ BK429.out 6⟩ (fun hHeld => ?_)
     clear hK K
     refine norm_ (a' := ?_) ?_ ?_
     rotate_left
     ·
      show Act.put _ (some 36) _ = _
      simp only [Act.put, sA_, sZ_, sS_, i64_w, i32_w]
      rfl
     refine one_ (i := 7) (N := some 38) #[true, true, true, true, true, true, true, true, true, true, false, true, true, false, false, false, false] rfl rfl (one_of HT_.out (by kernel_rfl)) (by decide) (fun K hK => ?_)
     refine goes_ Tryz.func15 (by kernel_rfl) rfl #[.agg #[.string a0_0, .int .i64 a0_1, .int .i64 a0_2, .int .i64 a0_3, .bool a0_4, .bool a0_5, .slice A0_6 l0_6.length c0_6]] (by rfl) rfl rfl T1_ ?_
     with_reducible refine (pantrymade_Site.calls a0_0 a0_1 a0_2 a0_3 a0_4 a0_5 (fun k_ => k_ < w.heap.size) _ _ l0_6 t435 t436 t437 t438 t439 t440 t441 _ ?side1 A32.out).mono ?_
     (case side1 => exact Kd.V_mk HC0_6.out (Kd.F_below (Kd.C_F Kd.heap_string HR0_6.out) W2_))
     rintro e w38 ⟨v442, rfl, ho0, hb⟩
     refine ⟨_, rfl, ?_⟩
     have n0_ := Aside0.mk (Kd.V_lower (Kd.V_mono (ok' := fun k_ => k_ ≠ gb429) ho0 (fun k_ hk_ => Or.elim hk_ (fun hs_ => fun e_ => Nat.not_le.2 hs_ (by rw [e_]; exact GW429.out)) (fun hn_ => (Kd.freshB (g := gb429) (o := .cells #[.string a0_0, .int .i64 a0_1, .int .i64 a0_2, .int .i64 a0_3, .bool a0_4, .bool a0_5, .slice A0_6 l0_6.length c0_6] 24 (0, 0)) (B1_ BK429.out) k_ hn_)))) (below_size W2_))
     have n1_ := Aside0.mk (blk_below (B1_ BK429.out) hb)
     have n2_ := Aside0.mk (below_step W2_ hb)
     clear BK429
     clear HB
     have HO443 := n0_
     have BK429 := n1_
     have HB := n2_
     clear n0_ n1_ n2_
     (try clear hb)
     (try clear hb2)
     (try clear hk)
     (try clear hi)
     (try clear ho0)
     refine hK.out _ _ ⟨xC_ BK429.out 0, xC_ BK429.out 1, xC_ BK429.out 2, xC_ BK429.out 3, xC_ BK429.out 4, xC_ BK429.out 5, xC_ BK429.out 6⟩ (fun hHeld => ?_)
     clear hK K
     refine norm_ (a' := ?_) ?_ ?_
     rotate_left
     ·
      show Act.put _ (some 38) _ = _
      simp only [Act.put, sA_, sZ_, sS_, i64_w, i32_w]
      rfl
     refine one_ (i := 10) (N := some 41) #[true, true, true, true, true, true, true, true, true, true, true, true, true, false, false, false, false] rfl rfl (one_of HT_.out (by kernel_rfl)) (by decide) (fun K hK => ?_)
     refine goes_ Tryz.func16 (by kernel_rfl) rfl #[.slice A2 l2.length c2] (by rfl) rfl rfl T1_ ?_
     with_reducible refine (pantrymade_Fields.calls kj7 _ _ l2 t444 _ ?side1 ?side2 A33.out).mono ?_
     (case side1 => exact C1_ ((Kd.C_below HR2.out HB.out)))
     (case side2 => exact HC2.out)
     rintro e w39 ⟨v445, rfl, ho0, hb⟩
     refine ⟨_, rfl, ?_⟩
     have n0_ := Aside0.mk (Kd.V_elder' (by (with_reducible repeat (first | apply Kd.V_alloc | apply Kd.V_drewN | apply Kd.V_drew)); exact HO443.out) (Kd.R_base ho0) hb)
     have n1_ := Aside0.mk (Kd.R_lower ho0 (below_size W2_))
     have n2_ := Aside0.mk (blk_below (B1_ BK429.out) hb)
     have n3_ := Aside0.mk (below_step W2_ hb)
     clear HO443
     clear BK429
     clear HB
     have HO443 := n0_
     have HO446 := n1_
     have BK429 := n2_
     have HB := n3_
     clear n0_ n1_ n2_ n3_
     (try clear hb)
     (try clear hb2)
     (try clear hk)
     (try clear hi)
     (try clear ho0)
     refine hK.out _ _ ⟨xC_ BK429.out 0, xC_ BK429.out 1, xC_ BK429.out 2, xC_ BK429.out 3, xC_ BK429.out 4, xC_ BK429.out 5, xC_ BK429.out 6⟩ (fun hHeld => ?_)
     clear hK K
     refine norm_ (a' := ?_) ?_ ?_
     rotate_left
     ·
      show Act.put _ (some 41) _ = _
      simp only [Act.put, sA_, sZ_, sS_, i64_w, i32_w]
      rfl
     refine one_ (i := 13) (N := some 44) #[true, true, true, true, true, true, true, true, true, true, true, true, true, true, false, false, false] rfl rfl (one_of HT_.out (by kernel_rfl)) (by decide) (fun K hK => ?_)
     refine goes_ Tryz.func16 (by kernel_rfl) rfl #[.slice A4 l4.length c4] (by rfl) rfl rfl T1_ ?_
     with_reducible refine (pantrymade_Fields.calls kj7 _ _ l4 t447 _ ?side1 ?side2 A34.out).mono ?_
     (case side1 => exact C1_ ((Kd.C_below HR4.out HB.out)))
     (case side2 => exact HC4.out)
     rintro e w40 ⟨v448, rfl, ho0, hb⟩
     refine ⟨_, rfl, ?_⟩
     have n0_ := Aside0.mk (Kd.V_elder' (by (with_reducible repeat (first | apply Kd.V_alloc | apply Kd.V_drewN | apply Kd.V_drew)); exact HO443.out) (Kd.R_base ho0) hb)
     have n1_ := Aside0.mk (Kd.R_elder' (R1_ HO446.out) (Kd.R_base ho0) hb)
     have n2_ := Aside0.mk (Kd.R_lower (Kd.R_new' ho0 (Kd.R_lt (R1_ HO446.out))) (below_size W2_))
     have n3_ := Aside0.mk (blk_below (B1_ BK429.out) hb)
     have n4_ := Aside0.mk (below_step W2_ hb)
     clear HO443
     clear HO446
     clear BK429
     clear HB
     have HO443 := n0_
     have HO446 := n1_
     have HO449 := n2_
     have BK429 := n3_
     have HB := n4_
     clear n0_ n1_ n2_ n3_ n4_
     (try clear hb)
     (try clear hb2)
     (try clear hk)
     (try clear hi)
     (try clear ho0)
     obtain ⟨Ao41, co41, eo41⟩ := Kd.V_slice HO443.out
     (first | subst eo41 | (injection eo41 with f1_ f2_ f3_; have f4_ := f1_.symm; have f5_ := f3_.symm; clear f1_ f2_ f3_; subst f4_; subst f5_))
     obtain ⟨Ao42, co42, eo42⟩ := Kd.R_slice HO446.out
     (first | subst eo42 | (injection eo42 with f1_ f2_ f3_; have f4_ := f1_.symm; have f5_ := f3_.symm; clear f1_ f2_ f3_; subst f4_; subst f5_))
     obtain ⟨Ao43, co43, eo43⟩ := Kd.R_slice HO449.out
     (first | subst eo43 | (injection eo43 with f1_ f2_ f3_; have f4_ := f1_.symm; have f5_ := f3_.symm; clear f1_ f2_ f3_; subst f4_; subst f5_))
     refine hK.out _ _ ⟨xC_ BK429.out 0, xC_ BK429.out 1, xC_ BK429.out 2, xC_ BK429.out 3, xC_ BK429.out 4, xC_ BK429.out 5, xC_ BK429.out 6⟩ (fun hHeld => ?_)
     clear hK K
     refine norm_ (a' := ?_) ?_ ?_
     rotate_left
     ·
      show Act.put _ (some 44) _ = _
      simp only [Act.put, sA_, sZ_, sS_, i64_w, i32_w]
      rfl
     refine one_ (i := 14) (N := some 45) #[true, true, true, true, true, true, true, true, true, true, true, true, true, true, true, false, false] rfl rfl (one_of HT_.out (by kernel_rfl)) (by decide) (fun K hK => ?_)
     refine goes_ Tryz.func14 (by kernel_rfl) rfl #[.agg #[.string t435, .int .i64 t436, .int .i64 t437, .int .i64 t438, .bool t439, .bool t440, .slice Ao41 t441.length co41], .string a1, .slice Ao42 t444.length co42, .int .i64 a3, .slice Ao43 t447.length co43] (by rfl) rfl rfl T1_ ?_
     with_reducible refine (pantryref12_Kept.calls kj7 t435 t436 t437 t438 t439 t440 _ _ t441 a1 _ _ t444 a3 _ _ t447 t450 _ ?side1 ?side2 ?side3 ?side4 ?side5 ?side6 A35.out).mono ?_
     (case side1 => exact C1_ ((Kd.V_reads' HO443.out).2.2))
     (case side2 => exact (Kd.V_reads' HO443.out).2.1)
     (case side3 => exact C1_ ((Kd.R_reads' HO446.out).2.2))
     (case side4 => exact (Kd.R_reads' HO446.out).2.1)
     (case side5 => exact C1_ ((Kd.R_reads' HO449.out).2.2))
     (case side6 => exact (Kd.R_reads' HO449.out).2.1)
     rintro e w44 ⟨rfl, hb⟩
     refine ⟨_, rfl, ?_⟩
     have n0_ := Aside0.mk (Kd.V_below (by (with_reducible repeat (first | apply Kd.V_alloc | apply Kd.V_drewN | apply Kd.V_drew)); exact HO443.out) hb)
     have n1_ := Aside0.mk (Kd.R_below (R1_ HO446.out) hb)
     have n2_ := Aside0.mk (Kd.R_below (R1_ HO449.out) hb)
     have n3_ := Aside0.mk (blk_below (B1_ BK429.out) hb)
     have n4_ := Aside0.mk (below_step W2_ hb)
     clear HO443
     clear HO446
     clear HO449
     clear BK429
     clear HB
     have HO443 := n0_
     have HO446 := n1_
     have HO449 := n2_
     have BK429 := n3_
     have HB := n4_
     clear n0_ n1_ n2_ n3_ n4_
     (try clear hb)
     (try clear hb2)
     (try clear hk)
     (try clear hi)
     refine hK.out _ _ ⟨xC_ BK429.out 0, xC_ BK429.out 1, xC_ BK429.out 2, xC_ BK429.out 3, xC_ BK429.out 4, xC_ BK429.out 5, xC_ BK429.out 6⟩ (fun hHeld => ?_)
     clear hK K
     refine norm_ (a' := ?_) ?_ ?_
     rotate_left
     ·
      show Act.put _ (some 45) _ = _
      simp only [Act.put, sA_, sZ_, sS_, i64_w, i32_w]
      rfl
     refine pure_ (i := 15) (N := some 46) (v := ?_) (a' := ?_) #[true, true, true, true, true, true, true, true, true, true, true, true, true, true, true, true, false] rfl rfl (any_of HT_.out (by kernel_rfl)) (fun _ _ _ h => h) (Or.inl ⟨by rfl, ?_⟩) ?_ ?_
     rotate_left
     ·
      intro w'
      go_simp
      with_reducible rfl
     rotate_left
     ·
      simp only [Act.put, sA_, sZ_, sS_, i64_w, i32_w]
      rfl
     refine pure_ (i := 16) (N := some 10) (v := ?_) (a' := ?_) #[true, true, true, true, true, true, true, true, true, true, true, true, true, true, true, true, true] rfl rfl (any_of HT_.out (by kernel_rfl)) (fun _ _ _ h => h) (Or.inl ⟨by rfl, ?_⟩) ?_ ?_
     rotate_left
     ·
      intro w'
      go_simp
      with_reducible rfl
     rotate_left
     ·
      simp only [Act.put, sA_, sZ_, sS_, i64_w, i32_w]
      rfl
     refine done_ (done_of HT_.out (by kernel_rfl)) ?_
     try go_wp2
     go_ret
     exact ⟨E1_, W2_⟩
 ·
  replace c7 := Bool.eq_false_iff.mpr c7
  subst c7
  rw [if_neg (show ¬ (false = true) by decide)] at H
  exact absurd H (by simp)

end Go.Proofs.YtgpekljckdgggaaGreatDoor.PAll
