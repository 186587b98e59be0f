-- Text by a program of this session, over what print.py prints.
import Derived.Test.YtcechlbeghcliaaDoorPAllx0
import Derived.Test.YtcechlbeghcliaaDoorPAllx2
import Derived.Test.YtcechlbeghcliaaDoorPAllx3
import Derived.Test.YtcechlbeghcliaaDoorPAllx4
namespace Go.Proofs.YtcechlbeghcliaaDoor.PAll
open Go.RowKit Go.Proofs.YtcechlbeghcliaaDoorW.PrintWords Go.Proofs.YtcechlbeghcliaaDoorW.PrintLast Go.Proofs.YtcechlbeghcliaaDoorW.PrintMore
attribute [local go_sem] max2_int min2_int max_two min_two max_three min_three max_four min_four   -- for this text's walks alone
set_option linter.unusedVariables false
set_option linter.unusedSimpArgs false

attribute [local go_sem high] eqA53
/-! ### pantrymade_Fields: function 15 -/
def pantrymade_Fields.l0 : Nat → List (S53) → List (S49) → Int → Int → Option ((List (S53)))
  | 0, _, _, _, _ => none
  | k + 1, x3, x6, x7, x8 => if x8 < x7 then (if 0 ≤ x8 then (if x8 < (x6.length : Int) then (if x3.length < 4398046511104 then (pantrymade_Fields.l0 k (x3 ++ [(⟨(rd_T49 x6 x8).f0, (rd_T49 x6 x8).f1⟩ : S53)]) x6 x7 (wrap64 (x8 + 1))) else (none)) else (none)) else (none)) else (some x3)
def pantrymade_Fields.f (k : Nat) (l0 : List (S49)) : Option ((List (S53))) := pantrymade_Fields.l0 k ([] : List (S53)) l0 (l0.length : Int) 0
theorem pantrymade_Fields.mono_l : ∀ k, (∀ y0 y1 y2 y3, LeO (pantrymade_Fields.l0 k y0 y1 y2 y3) (pantrymade_Fields.l0 (k + 1) y0 y1 y2 y3))
  | 0 => fun _ _ _ _ r h => by simp [pantrymade_Fields.l0] at h
  | k + 1 => by
    have ih0 := pantrymade_Fields.mono_l k
    · intro y0 y1 y2 y3
      unfold pantrymade_Fields.l0
      repeat' first
      | (with_reducible exact ih0 _ _ _ _)
      | (with_reducible exact LeO.refl _)
      | (with_reducible exact LeO.none _)
      | (with_reducible refine LeO.ite ?_ ?_)
      | (with_reducible refine LeO.bind ?_ (fun _ => ?_))
      | exact ih0 _ _ _ _
      | exact LeO.none _
      | refine LeO.ite ?_ ?_
      | refine LeO.bind ?_ (fun _ => ?_)
theorem pantrymade_Fields.mono : ∀ a0 k, LeO (pantrymade_Fields.f k a0) (pantrymade_Fields.f (k + 1) a0) := by
  intro a0 k
  have ih0 := pantrymade_Fields.mono_l k
  unfold pantrymade_Fields.f
  repeat' first
      | (with_reducible exact ih0 _ _ _ _)
      | (with_reducible exact LeO.refl _)
      | (with_reducible exact LeO.none _)
      | (with_reducible refine LeO.ite ?_ ?_)
      | (with_reducible refine LeO.bind ?_ (fun _ => ?_))
      | exact ih0 _ _ _ _
      | exact LeO.none _
      | refine LeO.ite ?_ ?_
      | refine LeO.bind ?_ (fun _ => ?_)
set_option maxHeartbeats 8000000 in
set_option maxRecDepth 100000 in
theorem pantrymade_Fields.calls (k : Nat) (A0 : Option Addr) (c0 : Nat) (l0 : List (S49)) (r : List (S53)) (w : World) (hr0 : Kd.C k49 w A0 l0.length l0) (hc0 : l0.length ≤ c0) (h : pantrymade_Fields.f k l0 = some r) :
    Calls Tryd.prog 15 #[.slice A0 l0.length c0] w fun e w' => ∃ v0_ : Value, e = .returned (v0_) ∧ Kd.R k53 53 w' w.heap.size (fun _ => True) v0_ r ∧ Below w.heap.size w w' := by
  have hu49 := Tryd.underlying49
  have HR0 := Aside0.mk hr0
  have HC0 := Aside0.mk hc0
  clear hr0 hc0
  have HB := Aside0.mk (Below.refl w.heap.size w)
  have H : (pantrymade_Fields.l0 k ([] : List (S53)) l0 (l0.length : Int) 0) = some r := h
  clear h
  have H' := Aside0.mk H
  clear H
  go_enter Tryd.func15, Tryd.ntmps15
  go_wp2
  go_loopg [3, 8] k (fun kq v3 v8 w' => ∃ (x3_1 : List (S53)) (x8_1 : Int), v8 = .int .i64 x8_1 ∧ Aside0 (pantrymade_Fields.l0 kq x3_1 l0 (l0.length : Int) x8_1 = some r) ∧ Aside0 (kq ≤ k) ∧ Aside0 (Kd.R k53 53 w' w.heap.size (fun _ => True) v3 x3_1) ∧ Aside0 (Below w.heap.size w w'))
  case atStart => exact ⟨(([] : List (S53))), (0), (by first | rfl | (simp; done) | (simp [*]; done)), H', ⟨Nat.le_refl _⟩, ⟨by first | exact Kd.R_nil _ _ _ _ _ | exact Kd.N_nil _ _ _ _ _ | exact Kd.V_nil _ _ _ _ _ | exact Kd.Q_nil _ _ _ _ _ | exact Kd.S_nil _ _ _ _ _⟩, ⟨by repeat (first | (with_reducible first | exact HB.out | apply below_alloc | apply pw_below_drewN | apply below_drew1) | exact HB.out)⟩⟩
  case round =>
    clear H'
    try clear c1
    obtain ⟨x3_1, x8_1, rfl, HA, HK1, HO_3, HB⟩ := hrel
    cases gk with
    | zero => exact absurd HA.out (by simp [pantrymade_Fields.l0])
    | succ k1 =>
      have H := HA.out
      clear HA
      simp only [pantrymade_Fields.l0] at H
      by_cases c2 : x8_1 < (l0.length : Int)
      · rw [if_pos c2] at H
        have c2b0 : decide (x8_1 < (l0.length : Int)) = true := decide_eq_true c2
        clear c2
        by_cases c3 : 0 ≤ x8_1
        · rw [if_pos c3] at H
          have c3b0 : decide (0 ≤ x8_1) = true := decide_eq_true c3
          clear c3
          by_cases c4 : x8_1 < (l0.length : Int)
          · rw [if_pos c4] at H
            have c4b0 : decide (x8_1 < (l0.length : Int)) = true := decide_eq_true c4
            clear c4
            by_cases c5 : x3_1.length < 4398046511104
            · rw [if_pos c5] at H
              have LMc5 := Aside0.mk c5
              clear c5
              obtain ⟨y187, hy187⟩ : ∃ y_ : List (S53), y_ = (x3_1 ++ [(⟨(rd_T49 l0 x8_1).f0, (rd_T49 l0 x8_1).f1⟩ : S53)]) := ⟨_, rfl⟩
              replace H : (pantrymade_Fields.l0 k1 y187 l0 (l0.length : Int) (wrap64 (x8_1 + 1))) = some r := by first | (rw [hy187]; with_reducible exact H) | (have H2_ := (Option.bind_some _ _).symm.trans H; rw [hy187]; with_reducible exact H2_) | (have H2_ := (Option.bind_some _ _).symm.trans H; with_reducible exact H2_) | with_reducible exact H | (rw [hy187]; exact H) | exact H
              have Ny187 := Aside0.mk hy187
              clear hy187
              have H' := Aside0.mk H
              clear H
              have p185 : 0 ≤ (x8_1 : Int) := of_decide_eq_true (by first | (with_reducible assumption) | assumption)
              have q185 : x8_1 < (l0.length : Int) := of_decide_eq_true (by first | (with_reducible assumption) | assumption)
              obtain ⟨ad185, e185, hx185_0, hx185_1⟩ := at_T49 HR0.out x8_1 p185 q185
              cases e185
              replace hx185_0 := (HB.out.cell (World.block_lt_of_cell? w _ hx185_0)).trans hx185_0
              replace hx185_1 := (HB.out.cell (World.block_lt_of_cell? w _ hx185_1)).trans hx185_1
              replace p185 := eq_true p185
              replace q185 := eq_true q185
              go_wp2_with (first | ((with_reducible refine gate_dst (N := 5) rfl ?_); refine box_event ?hg (N := 5) ?hd (cs := #[.string (⟨#[]⟩ : ByteArray), .string (⟨#[]⟩ : ByteArray)]) (t := 49) ?hr ?_; (case hd => rfl); (case hg => rfl); (case hr => first | (go_simp; done) | (go_simp; rfl)); intro gb186 hg w6 hbox hb; have n0_ := Aside0.mk (Kd.R_below (by (with_reducible repeat (first | apply Kd.R_alloc | apply Kd.R_drewN | apply Kd.R_drew)); exact HO_3.out) hb); have n1_ := Aside0.mk (below_step (by repeat (first | (with_reducible first | exact HB.out | apply below_alloc | apply pw_below_drewN | apply below_drew1) | exact HB.out)) hb); have n2_ := Aside0.mk (hbox); have n3_ := Aside0.mk ((by rw [hg]; exact (below_size (by repeat (first | (with_reducible first | exact HB.out | apply below_alloc | apply pw_below_drewN | apply below_drew1) | exact HB.out))) : w.heap.size ≤ gb186)); have n4_ := Aside0.mk ((by rw [hg]; exact (below_size (by repeat (first | (with_reducible first | exact HB.out | apply below_alloc | apply pw_below_drewN | apply below_drew1) | exact HB.out))) : w.heap.size ≤ gb186)); clear HO_3; clear HB; have HO_3 := n0_; have HB := n1_; have BK186 := n2_; have GW186 := n3_; have GE186 := n4_; clear n0_ n1_ n2_ n3_ n4_; clear hb hbox hg; have hcz7_0 : w6.cell? ⟨gb186, 0, none⟩ = some (.string (⟨#[]⟩ : ByteArray)) := (blk_cell BK186.out 0).trans rfl; have hcz7_1 : w6.cell? ⟨gb186, 1, none⟩ = some (.string (⟨#[]⟩ : ByteArray)) := (blk_cell BK186.out 1).trans rfl; have hfz7_0 := blk_frozen BK186.out 0; have hfz7_1 := blk_frozen BK186.out 1) | ((with_reducible refine gate_builtin (b := .append) (xs := #[.tmp 12, .tmp 14]) rfl ?_); at_builtin; refine Kd.R_append k53 (w0 := w) w.heap.size rfl (.tmp 12) (.tmp 14) 31 53 (.agg #[(.string ⟨#[]⟩), (.string ⟨#[]⟩)]) 32 rfl Tryd.underlying31 info53 rfl (by decide) (by omega) u3 x3_1 (⟨(rd_T49 l0 x8_1).f0, (rd_T49 l0 x8_1).f1⟩ : S53) [.string ((rd_T49 l0 x8_1).f0), .string ((rd_T49 l0 x8_1).f1)] (fun _ => True) (fun _ => False) rfl (by first | (go_simp; done) | (go_simp; rfl)) ?aP (fun _ hk => hk.elim) ?aF ?aO ?aB ?aS ?aL ?_; (case aP => exact k53_mkM _ _ _ (⟨(rd_T49 l0 x8_1).f0, (rd_T49 l0 x8_1).f1⟩ : S53)); (case aB => exact (by repeat (first | (with_reducible first | exact HB.out | apply below_alloc | apply pw_below_drewN | apply below_drew1 | refine below_set ?_ GE186.out) | exact HB.out))); (case aF => exact (fun _ _ => trivial)); (case aO => exact (by (with_reducible repeat (first | apply Kd.R_alloc | apply Kd.R_drewN | apply Kd.R_drew)); exact Kd.R_mono (Kd.R_far (p := ⟨gb186, 1, none⟩) (Kd.R_far (p := ⟨gb186, 0, none⟩) (Kd.R_types HO_3.out BK186.out (by decide)) (fun _ hk => hk.2) (.string ((rd_T49 l0 x8_1).f0))) (fun _ hk => hk.2) (.string ((rd_T49 l0 x8_1).f1))) (fun _ hk => trivial))); (case aS => exact (below_size (by repeat (first | (with_reducible first | exact HB.out | apply below_alloc | apply pw_below_drewN | apply below_drew1 | refine below_set ?_ GE186.out) | exact HB.out)))); (case aL => have := LMc5.out; omega); intro v188 w8 ho hb hg hat; rw [← Ny187.out] at ho; have n0_ := Aside0.mk (blk_grown (g := gb186) (o := .cells #[.string ((rd_T49 l0 x8_1).f0), .string ((rd_T49 l0 x8_1).f1)] 49 (0, 0)) (by (with_reducible repeat (first | refine blk_drewN ?_ _ | refine blk_drew ?_ | refine blk_alloc ?_ _)); refine blk_put (cs := #[.string ((rd_T49 l0 x8_1).f0), .string (⟨#[]⟩ : ByteArray)]) ?_ 1 _ rfl; (with_reducible repeat (first | refine blk_drewN ?_ _ | refine blk_drew ?_ | refine blk_alloc ?_ _)); refine blk_put (cs := #[.string (⟨#[]⟩ : ByteArray), .string (⟨#[]⟩ : ByteArray)]) ?_ 0 _ rfl; (with_reducible repeat (first | refine blk_drewN ?_ _ | refine blk_drew ?_ | refine blk_alloc ?_ _)); exact BK186.out) hg (Kd.R_ne HO_3.out BK186.out (by decide))); have n1_ := Aside0.mk (hb); have n2_ := Aside0.mk (ho); clear BK186; clear HB; clear HO_3; have BK186 := n0_; have HB := n1_; have HO189 := n2_; clear n0_ n1_ n2_; clear ho hb hg hat))
              go_roundg k1
              case measure => have := HK1.out; omega
              case rel => exact ⟨(y187), (wrap64 (x8_1 + 1)), (by first | rfl | (simp; done) | (simp [*]; done)), H', ⟨by have := HK1.out; omega⟩, ⟨by (with_reducible repeat (first | apply Kd.R_alloc | apply Kd.R_drewN | apply Kd.R_drew)); exact HO189.out⟩, ⟨by repeat (first | (with_reducible first | exact HB.out | apply below_alloc | apply pw_below_drewN | apply below_drew1 | refine below_set ?_ GE186.out) | exact HB.out)⟩⟩
            · rw [if_neg c5] at H
              exact absurd H (by simp)
          · rw [if_neg c4] at H
            exact absurd H (by simp)
        · rw [if_neg c3] at H
          exact absurd H (by simp)
      · rw [if_neg c2] at H
        have c2b0 : decide (x8_1 < (l0.length : Int)) = false := decide_eq_false c2
        clear c2
        obtain rfl := Option.some.inj H
        go_wp2
        go_ret
        exact ⟨_, by first | rfl | (generalize ByteArray.toList _ = l_; cases l_ <;> rfl) | (simp [errW_none, errW_some] <;> rfl) | (simp [*, errW_none, errW_some] <;> rfl), by (with_reducible repeat (first | apply Kd.R_alloc | apply Kd.R_drewN | apply Kd.R_drew)); exact HO_3.out, by repeat (first | (with_reducible first | exact HB.out | apply below_alloc | apply pw_below_drewN | apply below_drew1) | exact HB.out)⟩

/-! ### pantryref03_Same: function 36 -/
def pantryref03_Same.l0 : Nat → List (S53) → List (S53) → Int → Option (Bool)
  | 0, _, _, _ => none
  | k + 1, x0, x1, x5 => if x5 < (x0.length : Int) then (if 0 ≤ x5 then (if x5 < (x1.length : Int) then (if (!((((rd_T53 x0 x5).f0).toList) == (((rd_T53 x1 x5).f0).toList)) || (!((((rd_T53 x0 x5).f1).toList) == (((rd_T53 x1 x5).f1).toList)))) = true then (some false) else (pantryref03_Same.l0 k x0 x1 (wrap64 (x5 + 1)))) else (none)) else (none)) else (some true)
def pantryref03_Same.f (k : Nat) (l0 : List (S53)) (l1 : List (S53)) : Option (Bool) := if (l0.length : Int) = (l1.length : Int) then (pantryref03_Same.l0 k l0 l1 0) else (some false)
theorem pantryref03_Same.mono_l : ∀ k, (∀ y0 y1 y2, LeO (pantryref03_Same.l0 k y0 y1 y2) (pantryref03_Same.l0 (k + 1) y0 y1 y2))
  | 0 => fun _ _ _ r h => by simp [pantryref03_Same.l0] at h
  | k + 1 => by
    have ih0 := pantryref03_Same.mono_l k
    · intro y0 y1 y2
      unfold pantryref03_Same.l0
      repeat' first
      | (with_reducible exact ih0 _ _ _)
      | (with_reducible exact LeO.refl _)
      | (with_reducible exact LeO.none _)
      | (with_reducible refine LeO.ite ?_ ?_)
      | (with_reducible refine LeO.bind ?_ (fun _ => ?_))
      | exact ih0 _ _ _
      | exact LeO.none _
      | refine LeO.ite ?_ ?_
      | refine LeO.bind ?_ (fun _ => ?_)
theorem pantryref03_Same.mono : ∀ a0 a1 k, LeO (pantryref03_Same.f k a0 a1) (pantryref03_Same.f (k + 1) a0 a1) := by
  intro a0 a1 k
  have ih0 := pantryref03_Same.mono_l k
  unfold pantryref03_Same.f
  repeat' first
      | (with_reducible exact ih0 _ _ _)
      | (with_reducible exact LeO.refl _)
      | (with_reducible exact LeO.none _)
      | (with_reducible refine LeO.ite ?_ ?_)
      | (with_reducible refine LeO.bind ?_ (fun _ => ?_))
      | exact ih0 _ _ _
      | exact LeO.none _
      | refine LeO.ite ?_ ?_
      | refine LeO.bind ?_ (fun _ => ?_)
set_option maxHeartbeats 8000000 in
set_option maxRecDepth 100000 in
theorem pantryref03_Same.calls (k : Nat) (A0 : Option Addr) (c0 : Nat) (l0 : List (S53)) (A1 : Option Addr) (c1 : Nat) (l1 : List (S53)) (r : Bool) (w : World) (hr0 : Kd.C k53 w A0 l0.length l0) (hc0 : l0.length ≤ c0) (hr1 : Kd.C k53 w A1 l1.length l1) (hc1 : l1.length ≤ c1) (h : pantryref03_Same.f k l0 l1 = some r) :
    Calls Tryd.prog 36 #[.slice A0 l0.length c0, .slice A1 l1.length c1] w fun e w' => e = .returned (.bool r) ∧ Drawn0 w w' := by
  have hu53 := Tryd.underlying53
  have HR0 := Aside0.mk hr0
  have HC0 := Aside0.mk hc0
  clear hr0 hc0
  have HR1 := Aside0.mk hr1
  have HC1 := Aside0.mk hc1
  clear hr1 hc1
  have H : (if (l0.length : Int) = (l1.length : Int) then (pantryref03_Same.l0 k l0 l1 0) else (some false)) = some r := h
  clear h
  by_cases c3 : (l0.length : Int) = (l1.length : Int)
  · rw [if_pos c3] at H
    have c3b0 : ((l0.length : Int) == (l1.length : Int)) = true := beq_iff_eq.mpr c3
    have c3b1 : ((l0.length : Int) != (l1.length : Int)) = false := bne_eq_false_iff_eq.mpr c3
    have c3b2 : (l0.length == l1.length) = true := by first | simpa using c3 | (simp at c3 ⊢; omega)
    clear c3
    have H' := Aside0.mk H
    clear H
    go_enter Tryd.func36, Tryd.ntmps36
    go_wp2
    repeat (go_quiet (fail); try go_wp2)
    go_loopg [5] k (fun kq v5 w' => ∃ (x5_1 : Int), v5 = .int .i64 x5_1 ∧ Aside0 (pantryref03_Same.l0 kq l0 l1 x5_1 = some r) ∧ Aside0 (kq ≤ k) ∧ Drawn0 w w')
    case atStart => exact ⟨(0), (by first | rfl | (simp; done) | (simp [*]; done)), H', ⟨Nat.le_refl _⟩, by repeat (first | exact Drawn0.refl _ | apply Drawn0.step)⟩
    case round =>
      clear H'
      try clear c1
      try clear p2
      try clear c3
      try clear c3b0
      try clear c3b1
      try clear c3b2
      obtain ⟨x5_1, rfl, HA, HK1, ⟨m1, rfl⟩⟩ := hrel
      cases gk with
      | zero => exact absurd HA.out (by simp [pantryref03_Same.l0])
      | succ k1 =>
        have H := HA.out
        clear HA
        simp only [pantryref03_Same.l0] at H
        by_cases c4 : x5_1 < (l0.length : Int)
        · rw [if_pos c4] at H
          have c4b0 : decide (x5_1 < (l0.length : Int)) = true := decide_eq_true c4
          clear c4
          by_cases c5 : 0 ≤ x5_1
          · rw [if_pos c5] at H
            have c5b0 : decide (0 ≤ x5_1) = true := decide_eq_true c5
            clear c5
            by_cases c6 : x5_1 < (l1.length : Int)
            · rw [if_pos c6] at H
              have c6b0 : decide (x5_1 < (l1.length : Int)) = true := decide_eq_true c6
              clear c6
              by_cases c7 : (!((((rd_T53 l0 x5_1).f0).toList) == (((rd_T53 l1 x5_1).f0).toList)) || (!((((rd_T53 l0 x5_1).f1).toList) == (((rd_T53 l1 x5_1).f1).toList)))) = true
              · rw [if_pos c7] at H
                have c7b0 : (!((((rd_T53 l0 x5_1).f0).toList) == (((rd_T53 l1 x5_1).f0).toList)) || (!((((rd_T53 l0 x5_1).f1).toList) == (((rd_T53 l1 x5_1).f1).toList)))) = true := c7
                clear c7
                obtain rfl := Option.some.inj H
                have p190 : 0 ≤ (x5_1 : Int) := of_decide_eq_true (by first | (with_reducible assumption) | assumption)
                have q190 : x5_1 < (l0.length : Int) := of_decide_eq_true (by first | (with_reducible assumption) | assumption)
                obtain ⟨ad190, e190, hx190_0, hx190_1⟩ := at_T53 HR0.out x5_1 p190 q190
                cases e190
                replace p190 := eq_true p190
                replace q190 := eq_true q190
                have p191 : 0 ≤ (x5_1 : Int) := of_decide_eq_true (by first | (with_reducible assumption) | assumption)
                have q191 : x5_1 < (l1.length : Int) := of_decide_eq_true (by first | (with_reducible assumption) | assumption)
                obtain ⟨ad191, e191, hx191_0, hx191_1⟩ := at_T53 HR1.out x5_1 p191 q191
                cases e191
                replace p191 := eq_true p191
                replace q191 := eq_true q191
                go_wp2
                repeat (go_quiet (fail); try go_wp2)
                go_ret
                exact ⟨by first | rfl | (simp; done) | (simp [*]; done) | (generalize ByteArray.toList _ = l_; cases l_ <;> rfl), by repeat (first | exact Drawn0.refl _ | apply Drawn0.step)⟩
              · rw [if_neg c7] at H
                have c7b0 : (!((((rd_T53 l0 x5_1).f0).toList) == (((rd_T53 l1 x5_1).f0).toList)) || (!((((rd_T53 l0 x5_1).f1).toList) == (((rd_T53 l1 x5_1).f1).toList)))) = false := by simpa using c7
                clear c7
                have H' := Aside0.mk H
                clear H
                have p190 : 0 ≤ (x5_1 : Int) := of_decide_eq_true (by first | (with_reducible assumption) | assumption)
                have q190 : x5_1 < (l0.length : Int) := of_decide_eq_true (by first | (with_reducible assumption) | assumption)
                obtain ⟨ad190, e190, hx190_0, hx190_1⟩ := at_T53 HR0.out x5_1 p190 q190
                cases e190
                replace p190 := eq_true p190
                replace q190 := eq_true q190
                have p191 : 0 ≤ (x5_1 : Int) := of_decide_eq_true (by first | (with_reducible assumption) | assumption)
                have q191 : x5_1 < (l1.length : Int) := of_decide_eq_true (by first | (with_reducible assumption) | assumption)
                obtain ⟨ad191, e191, hx191_0, hx191_1⟩ := at_T53 HR1.out x5_1 p191 q191
                cases e191
                replace p191 := eq_true p191
                replace q191 := eq_true q191
                go_wp2
                repeat (go_quiet (fail); try go_wp2)
                go_roundg k1
                case measure => have := HK1.out; omega
                case rel => exact ⟨(wrap64 (x5_1 + 1)), (by first | rfl | (simp; done) | (simp [*]; done)), H', ⟨by have := HK1.out; omega⟩, by repeat (first | exact Drawn0.refl _ | apply Drawn0.step)⟩
            · rw [if_neg c6] at H
              exact absurd H (by simp)
          · rw [if_neg c5] at H
            exact absurd H (by simp)
        · rw [if_neg c4] at H
          have c4b0 : decide (x5_1 < (l0.length : Int)) = false := decide_eq_false c4
          clear c4
          obtain rfl := Option.some.inj H
          go_wp2
          repeat (go_quiet (fail); try go_wp2)
          go_ret
          exact ⟨by first | rfl | (simp; done) | (simp [*]; done) | (generalize ByteArray.toList _ = l_; cases l_ <;> rfl), by repeat (first | exact Drawn0.refl _ | apply Drawn0.step)⟩
  · rw [if_neg c3] at H
    have c3b0 : ((l0.length : Int) == (l1.length : Int)) = false := beq_eq_false_iff_ne.mpr c3
    have c3b1 : ((l0.length : Int) != (l1.length : Int)) = true := bne_iff_ne.mpr c3
    have c3b2 : (l0.length == l1.length) = false := by first | simpa using c3 | (simp at c3 ⊢; omega)
    obtain rfl := Option.some.inj H
    go_enter Tryd.func36, Tryd.ntmps36
    go_wp2
    repeat (go_quiet (fail); try go_wp2)
    go_ret
    exact ⟨by first | rfl | (simp; done) | (simp [*]; done) | (generalize ByteArray.toList _ = l_; cases l_ <;> rfl), by repeat (first | exact Drawn0.refl _ | apply Drawn0.step)⟩

/-! ### pantrylaw13_same: function 16 -/
def pantrylaw13_same.f (k : Nat) (l0 : List (S49)) (l1 : List (S53)) : Option (Bool) := (pantrymade_Fields.f k l0).bind fun t192 => ((pantryref03_Same.f k t192 l1).bind fun t195 => (some t195))
theorem pantrylaw13_same.mono : ∀ a0 a1 k, LeO (pantrylaw13_same.f k a0 a1) (pantrylaw13_same.f (k + 1) a0 a1) := by
  intro a0 a1 k
  unfold pantrylaw13_same.f
  repeat' first
      | (with_reducible exact pantrymade_Fields.mono _ _)
      | (with_reducible exact pantryref03_Same.mono _ _ _)
      | (with_reducible exact LeO.refl _)
      | (with_reducible exact LeO.none _)
      | (with_reducible refine LeO.ite ?_ ?_)
      | (with_reducible refine LeO.bind ?_ (fun _ => ?_))
      | exact pantrymade_Fields.mono _ _
      | exact pantryref03_Same.mono _ _ _
      | exact LeO.none _
      | refine LeO.ite ?_ ?_
      | refine LeO.bind ?_ (fun _ => ?_)
set_option maxHeartbeats 8000000 in
set_option maxRecDepth 100000 in
theorem pantrylaw13_same.calls (k : Nat) (A0 : Option Addr) (c0 : Nat) (l0 : List (S49)) (A1 : Option Addr) (c1 : Nat) (l1 : List (S53)) (r : Bool) (w : World) (hr0 : Kd.C k49 w A0 l0.length l0) (hc0 : l0.length ≤ c0) (hr1 : Kd.C k53 w A1 l1.length l1) (hc1 : l1.length ≤ c1) (h : pantrylaw13_same.f k l0 l1 = some r) :
    Calls Tryd.prog 16 #[.slice A0 l0.length c0, .slice A1 l1.length c1] w fun e w' => e = .returned (.bool r) ∧ Below w.heap.size w w' := by
  have HR0 := Aside0.mk hr0
  have HC0 := Aside0.mk hc0
  clear hr0 hc0
  have HR1 := Aside0.mk hr1
  have HC1 := Aside0.mk hc1
  clear hr1 hc1
  have HB := Aside0.mk (Below.refl w.heap.size w)
  have H : ((pantrymade_Fields.f k l0).bind fun t192 => ((pantryref03_Same.f k t192 l1).bind fun t195 => (some t195))) = some r := h
  clear h
  replace H := Option.bind_eq_some_iff.mp H
  obtain ⟨t192, A30, H⟩ := H
  replace H : ((pantryref03_Same.f k t192 l1).bind fun t195 => (some t195)) = some r := H
  have A3 := Aside0.mk A30
  clear A30
  replace H := Option.bind_eq_some_iff.mp H
  obtain ⟨t195, A40, H⟩ := H
  replace H : (some t195) = some r := H
  have A4 := Aside0.mk A40
  clear A40
  obtain rfl := Option.some.inj H
  go_enter Tryd.func16, Tryd.ntmps16
  go_wp2_with (first | ((with_reducible refine gate_callee (f := 15) rfl ?_); refine goesL_ (some 6) rfl rfl Tryd.func15 (by kernel_rfl) rfl #[.slice A0 l0.length c0] rfl (by (try simp only [List.map_toArray, List.map_cons, List.map_nil]); first | done | rfl | (simp only [List.length_drop, List.length_take]; rfl)) ?_; (with_reducible refine (pantrymade_Fields.calls k _ _ l0 t192 _ ?side1 ?side2 A3.out).mono ?_); (case side1 => repeat (first | exact HR0.out | (with_reducible refine Kd.C_alloc ?_ _) | (with_reducible refine Kd.C_drewN ?_ _) | (with_reducible refine Kd.C_drew ?_))); (case side2 => exact HC0.out); rintro e w5 ⟨v193, rfl, ho0, hb⟩; refine ⟨_, rfl, ?_⟩; have n0_ := Aside0.mk (Kd.R_lower ho0 (below_size (by repeat (first | (with_reducible first | exact HB.out | apply below_alloc | apply pw_below_drewN | apply below_drew1) | exact HB.out)))); have n1_ := Aside0.mk (below_step (by repeat (first | (with_reducible first | exact HB.out | apply below_alloc | apply pw_below_drewN | apply below_drew1) | exact HB.out)) hb); clear HB; have HO194 := n0_; have HB := n1_; clear n0_ n1_; (try clear hb); (try clear hb2); (try clear hk); (try clear hi); (try clear ho0); obtain ⟨Ao6, co6, eo6⟩ := Kd.R_slice HO194.out; subst eo6) | ((with_reducible refine gate_callee (f := 36) rfl ?_); refine goesL_ (some 8) rfl rfl Tryd.func36 (by kernel_rfl) rfl #[.slice Ao6 t192.length co6, .slice A1 l1.length c1] rfl (by (try simp only [List.map_toArray, List.map_cons, List.map_nil]); first | done | rfl | (simp only [List.length_drop, List.length_take]; rfl)) ?_; (with_reducible refine (pantryref03_Same.calls k _ _ t192 _ _ l1 t195 _ ?side1 ?side2 ?side3 ?side4 A4.out).mono ?_); (case side1 => repeat (first | exact (Kd.R_reads' HO194.out).2.2 | (with_reducible refine Kd.C_alloc ?_ _) | (with_reducible refine Kd.C_drewN ?_ _) | (with_reducible refine Kd.C_drew ?_))); (case side2 => exact (Kd.R_reads' HO194.out).2.1); (case side3 => repeat (first | exact (Kd.C_below HR1.out HB.out) | (with_reducible refine Kd.C_alloc ?_ _) | (with_reducible refine Kd.C_drewN ?_ _) | (with_reducible refine Kd.C_drew ?_))); (case side4 => exact HC1.out); rintro e w' ⟨rfl, ⟨nd, rfl⟩⟩; refine ⟨_, rfl, ?_⟩))
  go_ret
  exact ⟨by first | rfl | (generalize ByteArray.toList _ = l_; cases l_ <;> rfl) | (simp [errW_none, errW_some] <;> rfl) | (simp [*, errW_none, errW_some] <;> rfl), by repeat (first | (with_reducible first | exact HB.out | apply below_alloc | apply pw_below_drewN | apply below_drew1) | exact HB.out)⟩

-- NOT PRINTED: function 43 (pass_Merge_1)

/-! ### field_Field_42: function 42, by hand -/
-- over slices_IndexFunc_string_string
set_option maxHeartbeats 2000000 in
set_option maxRecDepth 100000 in
theorem IndexFunc_field (p : S49 → Bool) (g : Nat) (lb : Array Value) (eg : ∀ args w, (callFunc g args).run Tryd.prog w = .ok (.enter g args) w) (A : Option Addr) (c : Nat) (l : List S49) (w : World)
    (hp : ∀ (W : World) (x : S49), x ∈ l → Below w.heap.size w W → Calls Tryd.prog g (#[.agg #[.string x.f0, .string x.f1]] ++ lb) W fun e w' => e = .returned (.bool (p x)) ∧ Below W.heap.size W w')
    (hr : Kd.C k49 w A l.length l) (hc : l.length ≤ c) (hbig : l.length ≤ 9223372036854775806) :
    Calls Tryd.prog 42 #[.slice A l.length c, .func (.func g) #[] lb] w fun e w' => e = .returned (.int .i64 (idxP p l)) ∧ Below w.heap.size w w' := by
  have HR := Aside0.mk hr
  have HP := Aside0.mk hp
  clear hr hp
  go_enter Tryd.func42, Tryd.ntmps42
  go_wp2
  go_loopw [8] (fun i wr => ∃ k : Nat, k ≤ l.length ∧ i = .int .i64 k ∧ Aside0 (Below w.heap.size w wr) ∧ Aside0 (∀ j (hj : j < l.length), j < k → p l[j] = false)) (fun i _ => l.length - (intOf i).toNat)
  case atStart => exact ⟨0, Nat.zero_le _, rfl, ⟨Below.refl _ _⟩, ⟨fun j hj h => absurd h (Nat.not_lt_zero _)⟩⟩
  case round =>
    obtain ⟨k, hk, rfl, HB, HN⟩ := hrel
    by_cases hlt : k < l.length
    · obtain ⟨ad, rfl, h0, h1⟩ := at_T49 HR.out (k : Int) (by omega) (by omega)
      replace h0 := pw_cell_below (HB.out) h0
      replace h1 := pw_cell_below (HB.out) h1
      have hx : rd_T49 l (k : Int) = l[k] := by simp [rd_T49, hlt]
      rw [hx] at h0 h1
      simp only [Int.toNat_natCast] at h0 h1
      have hcall := HP.out wr l[k] (List.getElem_mem hlt) HB.out
      obtain ⟨y, hy⟩ : ∃ y, y = l[k] := ⟨_, rfl⟩
      rw [← hy] at h0 h1 hcall
      have HY := Aside0.mk hy
      clear hy hx
      have p5 : ((0 : Int) ≤ (k : Int)) = True := eq_true (by omega)
      have q5 : ((k : Int) < (l.length : Int)) = True := eq_true (by omega)
      cases hq : p y with
      | true =>
        rw [hq] at hcall
        go_wp2_with (go_at_fn g; refine hcall.mono ?_; rintro e w' ⟨rfl, hb'⟩)
        go_ret
        refine ⟨?_, below_then HB.out HB.out.size hb'⟩
        rw [idxP_hit p l k hlt (by rw [← HY.out]; exact hq) HN.out]
        rfl
      | false =>
        rw [hq] at hcall
        go_wp2_with (go_at_fn g; refine hcall.mono ?_; rintro e w' ⟨rfl, hb'⟩)
        go_roundw
        case rel =>
          refine ⟨k + 1, by omega, by simp, ⟨below_then HB.out HB.out.size hb'⟩, ⟨fun j hj h => ?_⟩⟩
          by_cases e : j = k
          · subst e
            rw [← HY.out]; exact hq
          · exact HN.out j hj (by omega)
        case measure => simp [intOf]; omega
    · have q5 : ((k : Int) < (l.length : Int)) = False := eq_false (by omega)
      go_wp2
      go_ret
      refine ⟨?_, HB.out⟩
      rw [idxP_miss p l (fun j hj => HN.out j hj (by omega))]
      rfl
/-! Merge's function: the first field of a name -/
theorem Merge1_calls (o : S49) (B : Nat) (nm : ByteArray) (W : World) (hx : o.f0.size ≤ 140737488351232) (hn : nm.size ≤ 140737488351232) (hc : W.cell? ⟨B, 0, none⟩ = some (.string nm)) :
    Calls Tryd.prog 43 #[.agg #[.string o.f0, .string o.f1], .pointer (some ⟨B, 0, none⟩)] W fun e w' => e = .returned (.bool (sameB o.f0 nm)) ∧ Below W.heap.size W w' := by
  have hne : B < W.heap.size := World.block_lt_of_cell? W _ hc
  have hne' : B ≠ W.heap.size := by omega
  have C := Same_calls o.f0 nm hx hn (W.alloc (.cells #[.string o.f0, .string o.f1] 49))
  generalize sameB o.f0 nm = z at *
  go_enter Tryd.func43, Tryd.ntmps43
  go_wp2_with (go_at_call 44; refine C.mono ?_; rintro e w' ⟨rfl, hb'⟩)
  go_ret
  exact ⟨rfl, ((Below.refl _ W).alloc (Nat.le_refl _) _).trans (hb'.mono (by simp))⟩
def firstOk (l : List S49) (nm : ByteArray) : Prop := l.length ≤ 1000000 ∧ nm.size ≤ 140737488351232 ∧ ∀ x ∈ l, x.f0.size ≤ 140737488351232
instance (l : List S49) (nm : ByteArray) : Decidable (firstOk l nm) := by unfold firstOk; infer_instance
def field_Field_42.f (l0 : List S49) (a1_0 a1_1 : ByteArray) : Option Int := if firstOk l0 a1_0 then some (idxP (fun o => sameB o.f0 a1_0) l0) else none
theorem field_Field_42.calls (A0 : Option Addr) (c0 : Nat) (l0 : List S49) (a1_0 a1_1 : ByteArray) (r : Int) (w : World) (hr0 : Kd.C k49 w A0 l0.length l0) (hc0 : l0.length ≤ c0) {g : Nat} (hb : w.heap[g]? = some (.cells #[.string a1_0, .string a1_1] 49 (0, 0))) (h : field_Field_42.f l0 a1_0 a1_1 = some r) :
    Calls Tryd.prog 42 #[.slice A0 l0.length c0, .func (.func 43) #[] #[.pointer (some ⟨g, 0, none⟩)]] w fun e w' => e = .returned (.int .i64 r) ∧ Below w.heap.size w w' := by
  unfold field_Field_42.f at h
  by_cases hok : firstOk l0 a1_0
  case neg => rw [if_neg hok] at h; cases h
  rw [if_pos hok] at h
  obtain rfl := Option.some.inj h
  have eg : ∀ args w, (callFunc 43 args).run Tryd.prog w = .ok (.enter 43 args) w := enters_of Tryd.func43 (by kernel_rfl) rfl
  have hb0 : w.cell? ⟨g, 0, none⟩ = some (.string a1_0) := (blk_cell hb 0).trans rfl
  exact IndexFunc_field (fun o => sameB o.f0 a1_0) 43 #[.pointer (some ⟨g, 0, none⟩)] eg A0 c0 l0 w (fun W x hx hb2 => Merge1_calls x g a1_0 W (hok.2.2 x hx) hok.2.1 (pw_cell_below hb2 hb0)) hr0 hc0 (by have := hok.1; omega)

/-! ### field_Field_64: function 64, by hand -/
set_option maxHeartbeats 2000000 in
set_option maxRecDepth 100000 in
theorem Clone_field (A : Option Addr) (c : Nat) (l : List S49) (w : World) (hr : Kd.C k49 w A l.length l) (hc : l.length ≤ c) (hl : l.length ≤ 1000000000) :
    Calls Tryd.prog 64 #[.slice A l.length c] w fun e w' => ∃ v : Value, e = .returned v ∧ Kd.R k49 49 w' w.heap.size (fun _ => True) v l ∧ Below w.heap.size w w' := by
  have HR := Aside0.mk hr
  cases A with
  | none =>
    have hnil : l = [] := by
      cases l with
      | nil => rfl
      | cons x l => obtain ⟨ad, e, _⟩ := hr.2.2 (by simp); cases e
    subst hnil
    clear hr
    have ke : ∀ W, (binOp .eql 23 (.slice none 0 c) (.slice none 0 0)).run Tryd.prog W = .ok (.bool true) W := fun W => run_eql_slice_nil W 23 49 none _ c Tryd.underlying23
    go_enter Tryd.func64, Tryd.ntmps64
    go_wp2
    go_ret
    exact ⟨_, rfl, Kd.R_nil _ _ _ _ _, Below.refl _ _⟩
  | some ad =>
    clear hr
    have ke : ∀ W, (binOp .eql 23 (.slice (some ad) l.length c) (.slice none 0 0)).run Tryd.prog W = .ok (.bool false) W := fun W => run_eql_slice_nil W 23 49 (some ad) _ c Tryd.underlying23
    go_enter Tryd.func64, Tryd.ntmps64
    go_wp2_with (first | ((with_reducible refine gate_dst (N := 5) rfl ?_); refine Kd.R_lit k49 w.heap.size 49 ?hg (N := 5) ?hd (xs := ([] : List S49)) (inner := []) (ok := fun _ => True) (okp := fun _ => True) ?hr (Reps.none _ _) (fun _ hk => hk) trivial (Below.refl _ _) (Nat.le_refl _) (by simp) ?_; (case hd => rfl); (case hg => rfl); (case hr => first | (go_simp; done) | (go_simp; rfl)); intro v1 w1 ho hb hg_ hnew_; have HO := Aside0.mk ho; have HB := Aside0.mk hb; clear ho hb hg_ hnew_) | ((with_reducible refine gate_builtin (b := .append) (xs := #[.tmp 5, .tmp 6]) rfl ?_); at_builtin; refine Kd.R_append_rows k49 (w0 := w) w.heap.size rfl (.tmp 5) (.tmp 6) 23 49 (.agg #[.string ⟨#[]⟩, .string ⟨#[]⟩]) 32 rfl Tryd.underlying23 info49 rfl (by decide) (by omega) v1 [] l (some ad) l.length c (fun _ => True) (fun _ => False) rfl rfl HO.out (Kd.C_below HR.out HB.out) (fun x cs hk => by obtain rfl := k49_open hk; exact k49_mkM _ _ _ _) (fun _ hk => hk.elim) (fun _ _ => trivial) HB.out HB.out.size (by simp; omega) ?_; intro v2 w2 ho hb hg hat; clear hg hat))
    go_ret
    exact ⟨_, rfl, ho, hb⟩

-- NOT PRINTED: function 65 (field_List_With_1)

/-! ### field_List_With: function 45, by hand -/
-- over 42 64 21 41
/-! ### What Without comes to -/
def isOf (ns : List ByteArray) (o : S49) : Bool := ns.any fun n => sameB n o.f0
def wout (ns : List ByteArray) (l : List S49) : List S49 := l.filter fun o => !isOf ns o
theorem w64n {x : Int} (h0 : -9223372036854775808 ≤ x) (h1 : x ≤ 9223372036854775807) : wrap64 x = x := by unfold wrap64; omega
theorem wout_l0 (ns : List ByteArray) (l : List S49) (hn : ns.length ≤ 140737488351232) (hns : ∀ x ∈ ns, x.size ≤ 140737488351232) (hl : ∀ x ∈ l, x.f0.size ≤ 140737488351232) (hlen : l.length < 4398046511104) :
    ∀ (d i : Nat) (acc : List S49) (k : Nat), i + d = l.length → acc.length ≤ i → d < k →
    field_List_Without.l0 k ns acc l (l.length : Int) (i : Int) = some (acc ++ wout ns (l.drop i)) := by
  intro d
  induction d with
  | zero =>
    intro i acc k hi ha hk
    obtain ⟨k, rfl⟩ : ∃ j, k = j + 1 := ⟨k - 1, by omega⟩
    simp only [field_List_Without.l0]
    rw [if_neg (by omega), List.drop_of_length_le (by omega)]
    simp [wout]
  | succ d ih =>
    intro i acc k hi ha hk
    obtain ⟨k, rfl⟩ : ∃ j, k = j + 1 := ⟨k - 1, by omega⟩
    have hlt : i < l.length := by omega
    have hx : rd_T49 l (i : Int) = l[i] := by simp [rd_T49, hlt]
    simp only [field_List_Without.l0]
    rw [if_pos (by omega), if_pos (by omega), if_pos (by omega), hx]
    unfold field_Field_named.f
    rw [if_pos ⟨hl _ (List.getElem_mem hlt), hn, hns⟩]
    simp only [Option.bind_some]
    rw [List.drop_eq_getElem_cons hlt, w64n (by omega) (by omega)]
    by_cases hs : isOf ns l[i] = true
    · have hs' : (ns.any fun n => sameB n l[i].f0) = true := hs
      rw [if_pos hs']
      have := ih (i + 1) acc k (by omega) (by omega) (by omega)
      rw [show ((i + 1 : Nat) : Int) = (i : Int) + 1 by omega] at this
      rw [this]
      unfold wout
      rw [List.filter_cons_of_neg (by simp [hs])]
    · have hs' : ¬ (ns.any fun n => sameB n l[i].f0) = true := hs
      rw [if_neg hs', if_pos (by omega)]
      have := ih (i + 1) (acc ++ [l[i]]) k (by omega) (by simp; omega) (by omega)
      rw [show ((i + 1 : Nat) : Int) = (i : Int) + 1 by omega] at this
      rw [this]
      unfold wout
      rw [List.filter_cons_of_pos (by simp [hs]), List.append_assoc]
      rfl
theorem wout_f (ns : List ByteArray) (l : List S49) (hn : ns.length ≤ 140737488351232) (hns : ∀ x ∈ ns, x.size ≤ 140737488351232) (hl : ∀ x ∈ l, x.f0.size ≤ 140737488351232) (hlen : l.length < 4398046511104) (k : Nat) (hk : l.length < k) :
    field_List_Without.f k l ns = some (wout ns l) := by
  unfold field_List_Without.f
  have := wout_l0 ns l hn hns hl hlen l.length 0 [] k (by omega) (by simp) hk
  simpa using this
theorem C_one (W : World) (x : ByteArray) : Kd.C Kd.string (W.alloc (.cells #[.string x] 9)) (some ⟨W.heap.size, 0, none⟩) ([x] : List ByteArray).length [x] := by
  refine ⟨rfl, by simp, fun _ => ⟨_, rfl, fun j p hj => ⟨[.string p], rfl, rfl, fun i u hu => ?_⟩⟩⟩
  have hj0 : j = 0 := by
    have := (List.getElem?_eq_some_iff.1 hj).1
    simpa using this
  subst hj0
  have hi0 : i = 0 := by
    have := (List.getElem?_eq_some_iff.1 hu).1
    simpa using this
  subst hi0
  obtain rfl : x = p := by simpa using hj
  obtain rfl : Value.string x = u := by simpa using hu
  rw [add_plain]
  simp
theorem With1_calls (o : S49) (B : Nat) (nm : ByteArray) (W : World) (hx : o.f0.size ≤ 140737488351232) (hn : nm.size ≤ 140737488351232) (hc : W.cell? ⟨B, 0, none⟩ = some (.string nm)) :
    Calls Tryd.prog 65 #[.agg #[.string o.f0, .string o.f1], .pointer (some ⟨B, 0, none⟩)] W fun e w' => e = .returned (.bool (sameB nm o.f0)) ∧ Below W.heap.size W w' := by
  have hne : B < W.heap.size := World.block_lt_of_cell? W _ hc
  have hne' : B ≠ W.heap.size := by omega
  have C := field_Field_named.calls o.f0 o.f1 (some ⟨W.heap.size + 1, 0, none⟩) 1 [nm] (sameB nm o.f0) ((W.alloc (.cells #[.string o.f0, .string o.f1] 49)).alloc (.cells #[.string nm] 9))
    (by have := C_one (W.alloc (.cells #[.string o.f0, .string o.f1] 49)) nm; simpa using this) (by simp) (by
      unfold field_Field_named.f
      rw [if_pos ⟨hx, by simp, by simpa using hn⟩]
      simp)
  generalize sameB nm o.f0 = z at *
  go_enter Tryd.func65, Tryd.ntmps65
  go_wp2_with (go_at_call 41; refine C.mono ?_; rintro e w' ⟨rfl, hb'⟩)
  go_ret
  refine ⟨rfl, (((Below.refl _ W).alloc (Nat.le_refl _) _).alloc (by simp) _).trans (hb'.mono (by simp; omega))⟩
/-- One field set. -/
def withOne (l : List S49) (f : S49) : List S49 :=
  if l.any (fun o => sameB f.f0 o.f0) then l.take (l.findIdx fun o => sameB f.f0 o.f0) ++ [f] ++ wout [f.f0] (l.drop (l.findIdx (fun o => sameB f.f0 o.f0) + 1)) else l ++ [f]
theorem withOne_len (l : List S49) (f : S49) : (withOne l f).length ≤ l.length + 1 := by
  unfold withOne
  split
  · have h1 := List.length_filter_le (fun o => !isOf [f.f0] o) (l.drop (l.findIdx (fun o => sameB f.f0 o.f0) + 1))
    have h2 := List.length_take_le (l.findIdx fun o => sameB f.f0 o.f0) l
    simp only [wout, List.length_append, List.length_drop, List.length_cons, List.length_nil, List.length_take] at *
    omega
  · simp
theorem withOne_mem (l : List S49) (f x : S49) (h : x ∈ withOne l f) : x ∈ l ∨ x = f := by
  unfold withOne at h
  split at h
  · simp only [List.mem_append, List.mem_singleton, wout, List.mem_filter] at h
    rcases h with (h | h) | h
    · exact .inl (List.mem_of_mem_take h)
    · exact .inr h
    · exact .inl (List.mem_of_mem_drop h.1)
  · simp only [List.mem_append, List.mem_singleton] at h
    exact h
def withOk (l0 l1 : List S49) : Prop := l0.length + l1.length ≤ 1000000 ∧ (∀ x ∈ l0, x.f0.size ≤ 140737488351232) ∧ ∀ x ∈ l1, x.f0.size ≤ 140737488351232
instance (l0 l1 : List S49) : Decidable (withOk l0 l1) := by unfold withOk; infer_instance
def withAll (l0 l1 : List S49) : List S49 := l1.foldl withOne l0
theorem withAll_facts (l1 : List S49) : ∀ (l0 : List S49), (∀ x ∈ l0, x.f0.size ≤ 140737488351232) → (∀ x ∈ l1, x.f0.size ≤ 140737488351232) → (withAll l0 l1).length ≤ l0.length + l1.length ∧ ∀ x ∈ withAll l0 l1, x.f0.size ≤ 140737488351232 := by
  induction l1 with
  | nil => intro l0 h0 _; exact ⟨by simp [withAll], h0⟩
  | cons f l1 ih =>
    intro l0 h0 h1
    have hlen := withOne_len l0 f
    have := ih (withOne l0 f) (fun x hx => by
      rcases withOne_mem _ _ _ hx with h | rfl
      · exact h0 x h
      · exact h1 _ (by simp)) (fun x hx => h1 x (by simp [hx]))
    refine ⟨?_, this.2⟩
    have h3 := this.1
    simp only [List.length_cons]
    show (withAll (withOne l0 f) l1).length ≤ _
    omega
def field_List_With.f (l0 l1 : List S49) : Option (List S49) := if withOk l0 l1 then some (withAll l0 l1) else none
set_option maxHeartbeats 4000000 in
set_option maxRecDepth 100000 in
theorem field_List_With.calls (A0 : Option Addr) (c0 : Nat) (l0 : List S49) (A1 : Option Addr) (c1 : Nat) (l1 : List S49) (r : List S49) (w : World) (hr0 : Kd.C k49 w A0 l0.length l0) (hc0 : l0.length ≤ c0) (hr1 : Kd.C k49 w A1 l1.length l1) (hc1 : l1.length ≤ c1) (h : field_List_With.f l0 l1 = some r) :
    Calls Tryd.prog 45 #[.slice A0 l0.length c0, .slice A1 l1.length c1] w fun e w' => ∃ v0_ : Value, e = .returned (v0_) ∧ Kd.R k49 49 w' w.heap.size (fun _ => True) v0_ r ∧ Below w.heap.size w w' := by
  unfold field_List_With.f at h
  by_cases hok : withOk l0 l1
  case neg => rw [if_neg hok] at h; cases h
  rw [if_pos hok] at h
  obtain rfl := Option.some.inj h
  clear h
  obtain ⟨hlen, hn0, hn1⟩ := hok
  have HR0 := Aside0.mk hr0
  have HR1 := Aside0.mk hr1
  have HN0 := Aside0.mk hn0
  have HN1 := Aside0.mk hn1
  clear hr0 hr1 hn0 hn1
  go_enter Tryd.func45, Tryd.ntmps45
  go_wp2_with (go_at_call 64; refine (Clone_field A0 c0 l0 w HR0.out hc0 (by omega)).mono ?_; rintro e w1 ⟨v, rfl, hv, hb⟩)
  go_loopw [5, 14] (fun v5 i wr => ∃ k : Nat, k ≤ l1.length ∧ i = .int .i64 k ∧ Aside0 (Kd.R k49 49 wr w.heap.size (fun _ => True) v5 (withAll l0 (l1.take k))) ∧ Aside0 (Below w.heap.size w wr)) (fun _ i _ => l1.length - (intOf i).toNat)
  case atStart => exact ⟨0, Nat.zero_le _, rfl, ⟨by simpa [withAll] using hv⟩, ⟨hb⟩⟩
  case round =>
    obtain ⟨k, hk, rfl, HO, HB⟩ := hrel
    clear hv hb
    by_cases hlt : k < l1.length
    · have hfx := withAll_facts (l1.take k) l0 HN0.out (fun x hx => HN1.out x (List.mem_of_mem_take hx))
      have hnext : withAll l0 (l1.take (k + 1)) = withOne (withAll l0 (l1.take k)) l1[k] := by
        unfold withAll
        rw [List.take_succ_eq_append_getElem hlt, List.foldl_append]
        rfl
      have hyn := HN1.out l1[k] (List.getElem_mem hlt)
      obtain ⟨ad, rfl, g0, g1⟩ := at_T49 HR1.out (k : Int) (by omega) (by omega)
      replace g0 := pw_cell_below (HB.out) g0
      replace g1 := pw_cell_below (HB.out) g1
      have hx : rd_T49 l1 (k : Int) = l1[k] := by simp [rd_T49, hlt]
      rw [hx] at g0 g1
      simp only [Int.toNat_natCast] at g0 g1
      obtain ⟨y, hy⟩ : ∃ y, y = l1[k] := ⟨_, rfl⟩
      rw [← hy] at g0 g1 hnext hyn
      obtain ⟨xs, hxs⟩ : ∃ xs, xs = withAll l0 (l1.take k) := ⟨_, rfl⟩
      rw [← hxs] at hfx HO hnext
      have HNX := Aside0.mk hnext
      obtain ⟨hxl, hxn⟩ := hfx
      have hxl2 : xs.length ≤ 1000000 := by
        have := List.length_take_le k l1
        omega
      have HXN := Aside0.mk hxn
      clear hx hy hnext hxs hxl hxn
      obtain ⟨A, c, rfl, hlc, hC⟩ := Kd.R_reads HO.out
      have HC := Aside0.mk hC
      clear hC
      have p5 : ((0 : Int) ≤ (k : Int)) = True := eq_true (by omega)
      have q5 : ((k : Int) < (l1.length : Int)) = True := eq_true (by omega)
      have eg : ∀ args w, (callFunc 65 args).run Tryd.prog w = .ok (.enter 65 args) w := enters_of Tryd.func65 (by kernel_rfl) rfl
      go_wp2_with fail
      have hbl : Below wr.heap.size wr (wr.alloc (.cells #[.string y.f0, .string y.f1] 49)) := (Below.refl _ _).alloc (Nat.le_refl _) _
      have hblk : (wr.alloc (.cells #[.string y.f0, .string y.f1] 49)).heap[wr.heap.size]? = some (.cells #[.string y.f0, .string y.f1] 49 (0, 0)) := heap_alloc_new wr _
      obtain ⟨n, hn⟩ : ∃ n, n = wr.heap.size := ⟨_, rfl⟩
      have hng : w.heap.size ≤ n := by rw [hn]; exact HB.out.size
      have HLT : Aside0 (∀ q, (Value.slice A xs.length c).ownBlock = some q → q < n) := ⟨by rw [hn]; exact Kd.R_lt HO.out⟩
      rw [← hn] at hblk
      generalize wr.alloc (.cells #[.string y.f0, .string y.f1] 49) = W1 at *
      rw [← hn]
      clear hn
      have hb0 : W1.cell? ⟨n, 0, none⟩ = some (.string y.f0) := (blk_cell hblk 0).trans rfl
      refine (IndexFunc_field (fun o => sameB y.f0 o.f0) 65 #[.pointer (some ⟨n, 0, none⟩)] eg A c xs W1 (fun W x hx hb => With1_calls x n y.f0 W (HXN.out x hx) hyn (pw_cell_below hb hb0)) (Kd.C_below HC.out hbl) hlc (by omega)).mono ?_
      rintro e w2 ⟨rfl, hb2⟩
      have hblk2 := blk_below hblk hb2
      have HO2 := Aside0.mk (Kd.R_below (Kd.R_below HO.out hbl) hb2)
      have HB2 : Aside0 (Below w.heap.size w w2) := ⟨below_then (below_then HB.out HB.out.size hbl) (Nat.le_trans HB.out.size hbl.size) hb2⟩
      clear HO HB HC hblk hb0 hb2 hbl g0 g1
      have k0 : w2.cell? ⟨n, 0, none⟩ = some (.string y.f0) := (blk_cell hblk2 0).trans rfl
      have k1 : w2.cell? ⟨n, 1, none⟩ = some (.string y.f1) := (blk_cell hblk2 1).trans rfl
      have HBLK := Aside0.mk hblk2
      clear hblk2
      by_cases hany : xs.any (fun o => sameB y.f0 o.f0) = true
      · have hz : idxP (fun o => sameB y.f0 o.f0) xs = ((xs.findIdx fun o => sameB y.f0 o.f0 : Nat) : Int) := by unfold idxP; rw [if_pos hany]
        have hil : (xs.findIdx fun o => sameB y.f0 o.f0) < xs.length := List.findIdx_lt_length.2 (List.any_eq_true.1 hany)
        rw [hz]
        have hw1 : withOne xs y = xs.take (xs.findIdx fun o => sameB y.f0 o.f0) ++ [y] ++ wout [y.f0] (xs.drop (xs.findIdx (fun o => sameB y.f0 o.f0) + 1)) := by unfold withOne; rw [if_pos hany]
        rw [hw1] at HNX
        clear hw1 hz hany
        generalize (xs.findIdx fun o => sameB y.f0 o.f0) = i at *
        obtain ⟨g, cap, hv, hg1, hg2, _⟩ := Kd.R_form HO2.out (by omega)
        injection hv with hA _ hcc
        subst hA; subst hcc
        obtain ⟨cs, hcl, hM, hcells, hfr⟩ := Kd.R_elem HO2.out z49 (i : Int) (by omega) (by omega)
        have hgn : g < n := HLT.out g rfl
        obtain ⟨u0, u1, rfl⟩ : ∃ u0 u1, cs = [u0, u1] := by
          match cs, hcl with
          | [a, b], _ => exact ⟨a, b, rfl⟩
        have hseg := Kd.R_seg HO2.out (i : Int) (by omega) (by omega) (c := [u0, u1]) (seg := [.string y.f0, .string y.f1]) (j := 0) hcl hcells (Nat.le_refl 2) (x' := y) (okp := fun _ => False) (k49_mkM _ _ _ y) (fun _ hk => hk.elim)
        have s0 : w2.cell? ⟨g, i * 2, none⟩ = some u0 := hcells 0 u0 rfl
        have s1 : w2.cell? ⟨g, i * 2 + 1, none⟩ = some u1 := hcells 1 u1 rfl
        have t0 : w2.frozen? ⟨g, i * 2, none⟩ = false := hfr 0
        have t1 : w2.frozen? ⟨g, i * 2 + 1, none⟩ = false := hfr 1
        have hgne : g ≠ n := by omega
        have hadd : (⟨g, 0, none⟩ : Addr).add (i * 2) = ⟨g, i * 2, none⟩ := add_plain g _
        have HSEG := Aside0.mk hseg
        have p6 : ((0 : Int) ≤ (i : Int)) = True := eq_true (by omega)
        have q6 : ((i : Int) < (xs.length : Int)) = True := eq_true (by omega)
        clear hseg hcells hfr hM hcl
        -- REGION9
        go_wp2_with fail
        obtain ⟨W3, hW3⟩ : ∃ W3, W3 = (w2.setCell ⟨g, i * 2, none⟩ (.string y.f0)).setCell ⟨g, i * 2 + 1, none⟩ (.string y.f1) := ⟨_, rfl⟩
        have HO3 : Aside0 (Kd.R k49 49 W3 w.heap.size (fun _ => True) (.slice (some ⟨g, 0, none⟩) xs.length c) (xs.set i y)) := ⟨by rw [hW3]; exact HSEG.out.1⟩
        have HB3 : Aside0 (Below w.heap.size w W3) := ⟨by rw [hW3]; exact (HB2.out.setCell hg1 _).setCell hg1 _⟩
        have k3 : W3.cell? ⟨n, 0, none⟩ = some (.string y.f0) := by
          rw [hW3, World.cell?_setCell_other (h := by intro hh; exact hgne (congrArg Addr.block hh)), World.cell?_setCell_other (h := by intro hh; exact hgne (congrArg Addr.block hh))]
          exact k0
        have k3f : ∀ W, Below W3.heap.size W3 W → W.cell? ⟨n, 0, none⟩ = some (.string y.f0) := fun W hb => pw_cell_below hb k3
        rw [← hW3]
        clear hW3 HSEG s0 s1 t0 t1 k0 k1 HBLK HO2 HB2
        obtain ⟨A', hA'⟩ : ∃ A' : Option Addr, A' = if c = i + 1 then (some ⟨g, 0, none⟩ : Option Addr) else (some ⟨g, 0, none⟩ : Option Addr).map (·.add ((i + 1) * 2)) := ⟨_, rfl⟩
        have hdl : (xs.set i y).drop (i + 1) = xs.drop (i + 1) := by rw [List.drop_set, if_pos (by omega)]
        have hsl : (xs.set i y).length = xs.length := List.length_set
        have hCd : Kd.C k49 W3 A' (xs.drop (i + 1)).length (xs.drop (i + 1)) := by
          obtain ⟨_, _, hC3⟩ := Kd.R_reads' HO3.out
          have := Kd.C_drop (c := c) (m := i + 1) hC3 (by rw [hsl]; omega) (by rw [hsl]; exact hlc)
          rw [hdl] at this
          rw [hA']
          exact this
        have hdn : (xs.drop (i + 1)).length = xs.length - (i + 1) := List.length_drop
        have hcut : ∀ W, (Instr.slice 23 (.slice (some ⟨g, 0, none⟩) xs.length c) (some (.int .i64 ((i : Int) + 1))) none none).run Tryd.prog W = .ok (.slice A' (xs.drop (i + 1)).length (c - (i + 1))) W := by
          intro W
          have hel : Tryd.prog.elem 23 = 49 := by simp [Program.elem, Tryd.underlying23]
          have hu : Tryd.prog.underlying 23 = some (.slice (Tryd.prog.elem 23)) := by rw [hel]; exact Tryd.underlying23
          obtain ⟨i0, hi0, hz0⟩ := Option.map_eq_some_iff.1 info49
          simp only [Prod.mk.injEq] at hz0
          rw [run_slice_l W 23 (some ⟨g, 0, none⟩) xs.length c hu .i64 ((i : Int) + 1) (by omega) (by omega), hel, hdn, hA']
          rw [show ((i : Int) + 1).toNat = i + 1 by omega]
          simp [sizeOf, typeInfo, hi0, hz0.2.1, sliced, Result.andThen]
        have HCD := Aside0.mk hCd
        have hwi : IntKind.i64.wrap ((i : Int) + 1) = (i : Int) + 1 := IntWalk.i64_in _ (by omega)
        have hdr0 := fun x hx => HXN.out x (List.mem_of_mem_drop (i := i + 1) hx)
        have HDN := Aside0.mk hdr0
        have K3F := Aside0.mk k3f
        clear hCd hA' hdr0 k3f p6 q6 p5 q5
        refine wp_region_held_drew (S := fun W => W.cell? ⟨n, 0, none⟩ = some (.string y.f0)) (by kernel_rfl) (K3F.out _ (below_drew (Below.refl _ _))) (fun hHeld => ?_)
        refine wpAnyH_take (i := 0) (oi := _) (v := ?_) (by simp only [List.getElem?_toArray, List.getElem?_cons_succ, List.getElem?_cons_zero]; rfl) (by kernel_rfl) (by kernel_rfl) (by kernel_rfl) (by intro _ _ _ h; exact h) (Or.inl ⟨by rfl, ?_⟩) (by assumption) ?_
        rotate_left
        · intro w hSw; go_simp; try (with_reducible rfl)
        simp only [Act.put, List.setIfInBounds_toArray, List.set_cons_zero, List.set_cons_succ]
        refine wpAnyH_take (i := 1) (oi := _) (v := ?_) (by simp only [List.getElem?_toArray, List.getElem?_cons_succ, List.getElem?_cons_zero]; rfl) (by kernel_rfl) (by kernel_rfl) (by kernel_rfl) (by intro _ _ _ h; exact h) (Or.inl ⟨by rfl, ?_⟩) (by assumption) ?_
        rotate_left
        · intro w hSw; go_simp; try (with_reducible rfl)
        simp only [Act.put, List.setIfInBounds_toArray, List.set_cons_zero, List.set_cons_succ]
        refine wpAnyH_take (i := 2) (oi := _) (v := ?_) (by simp only [List.getElem?_toArray, List.getElem?_cons_succ, List.getElem?_cons_zero]; rfl) (by kernel_rfl) (by kernel_rfl) (by kernel_rfl) (by intro _ _ _ h; exact h) (Or.inl ⟨by rfl, ?_⟩) (by assumption) ?_
        rotate_left
        · intro w hSw; go_simp; try (with_reducible rfl)
        simp only [Act.put, List.setIfInBounds_toArray, List.set_cons_zero, List.set_cons_succ]
        refine wpAnyH_take (i := 3) (oi := _) (v := ?_) (by simp only [List.getElem?_toArray, List.getElem?_cons_succ, List.getElem?_cons_zero]; rfl) (by kernel_rfl) (by kernel_rfl) (by kernel_rfl) (by intro _ _ _ h; exact h) (Or.inl ⟨by rfl, ?_⟩) (by assumption) ?_
        rotate_left
        · intro w hSw; go_simp; try (with_reducible rfl)
        simp only [Act.put, List.setIfInBounds_toArray, List.set_cons_zero, List.set_cons_succ]
        refine wpAnyH_take (i := 5) (oi := _) (v := ?_) (by simp only [List.getElem?_toArray, List.getElem?_cons_succ, List.getElem?_cons_zero]; rfl) (by kernel_rfl) (by kernel_rfl) (by kernel_rfl) (by intro _ _ _ h; exact h) (Or.inl ⟨by rfl, ?_⟩) (by assumption) ?_
        rotate_left
        · intro w hSw; go_simp; try (with_reducible rfl)
        simp only [Act.put, List.setIfInBounds_toArray, List.set_cons_zero, List.set_cons_succ]
        refine wpAnyH_take (i := 6) (oi := _) (v := ?_) (by simp only [List.getElem?_toArray, List.getElem?_cons_succ, List.getElem?_cons_zero]; rfl) (by kernel_rfl) (by kernel_rfl) (by kernel_rfl) (by intro _ _ _ h; exact h) (Or.inl ⟨by rfl, ?_⟩) (by assumption) ?_
        rotate_left
        · intro w hSw; go_simp; try (with_reducible rfl)
        simp only [Act.put, List.setIfInBounds_toArray, List.set_cons_zero, List.set_cons_succ]
        have CL : ∀ W, Below W3.heap.size W3 W → Calls Tryd.prog 64 #[.slice A' (xs.length - (i + 1)) (c - (i + 1))] W fun e w' => ∃ v : Value, e = .returned v ∧ Kd.R k49 49 w' W.heap.size (fun _ => True) v (xs.drop (i + 1)) ∧ Below W.heap.size W w' := by
          intro W hb
          have := Clone_field A' (c - (i + 1)) (xs.drop (i + 1)) W (Kd.C_below HCD.out hb) (by omega) (by omega)
          rw [hdn] at this
          exact this
        have WT : ∀ (A4 : Option Addr) (c4 : Nat) (W : World) (B : Nat), Kd.C k49 W A4 (xs.drop (i + 1)).length (xs.drop (i + 1)) → (xs.drop (i + 1)).length ≤ c4 → Kd.C Kd.string W (some ⟨B, 0, none⟩) 1 [y.f0] → Calls Tryd.prog 21 #[.slice A4 (xs.length - (i + 1)) c4, .slice (some ⟨B, 0, none⟩) 1 1] W fun e w' => ∃ v : Value, e = .returned v ∧ Kd.R k49 49 w' W.heap.size (fun _ => True) v (wout [y.f0] (xs.drop (i + 1))) ∧ Below W.heap.size W w' := by
          intro A4 c4 W B h1 h2 h3
          have := field_List_Without.calls 1000001 A4 c4 (xs.drop (i + 1)) (some ⟨B, 0, none⟩) 1 [y.f0] (wout [y.f0] (xs.drop (i + 1))) W h1 h2 h3 (by simp) (wout_f [y.f0] (xs.drop (i + 1)) (by simp) (by simpa using hyn) (fun x hx => HDN.out x hx) (by omega) 1000001 (by omega))
          rw [hdn] at this
          exact this
        refine wpAnyH_ready (rs := [4, 7]) (by kernel_rfl) (by simp) ?_
        refine AllReadyH.cons (o := _) (by simp only [List.getElem?_toArray, List.getElem?_cons_succ, List.getElem?_cons_zero]; rfl) (fun K hK => ?_) ?_
        · go_simp
          go_at_call 64
          refine (CL _ (below_drew (Below.refl _ _))).mono ?_
          rintro e w4 ⟨v4, rfl, hv4, hb4⟩
          obtain ⟨A4, c4, hv4e, hl4, hC4⟩ := Kd.R_reads hv4
          rw [hdn] at hv4e
          subst hv4e
          have hB4 : Below W3.heap.size W3 w4 := below_then (below_drew (Below.refl _ _)) (Nat.le_refl _) hb4
          (try go_simp)
          refine hK.out _ _ (K3F.out _ hB4) (fun hHeld2 => ?_)
          clear hK K
          (try simp only [Act.put, List.setIfInBounds_toArray, List.set_cons_zero, List.set_cons_succ])
          refine wpAnyH_ready (rs := [7]) (by kernel_rfl) (by simp) ?_
          refine AllReadyH.cons (o := _) (by simp only [List.getElem?_toArray, List.getElem?_cons_succ, List.getElem?_cons_zero]; rfl) (fun K hK => ?_) ?_
          rotate_left
          · exact AllReadyH.nil
          go_simp
          have hB5 : Below W3.heap.size W3 (w4.alloc (.cells #[.string y.f0] 9)) := hB4.alloc hB4.size _
          (try go_simp)
          refine hK.out _ _ (K3F.out _ hB5) (fun hHeld2 => ?_)
          clear hK K
          (try simp only [Act.put, List.setIfInBounds_toArray, List.set_cons_zero, List.set_cons_succ])
          refine wpAnyH_ready (rs := [8]) (by kernel_rfl) (by simp) ?_
          refine AllReadyH.cons (o := _) (by simp only [List.getElem?_toArray, List.getElem?_cons_succ, List.getElem?_cons_zero]; rfl) (fun K hK => ?_) ?_
          rotate_left
          · exact AllReadyH.nil
          go_simp
          go_at_call 21
          refine (WT A4 c4 _ _ (Kd.C_below hC4 ((Below.refl _ _).alloc (Nat.le_refl _) _)) hl4 (C_one w4 y.f0)).mono ?_
          rintro e w8 ⟨v8, rfl, hv8, hb8⟩
          have hB8 : Below W3.heap.size W3 w8 := below_then hB5 hB5.size hb8
          (try go_simp)
          refine hK.out _ _ (K3F.out _ hB8) (fun hHeld2 => ?_)
          clear hK K
          (try simp only [Act.put, List.setIfInBounds_toArray, List.set_cons_zero, List.set_cons_succ])
          refine wpAnyH_take (i := 9) (oi := _) (v := ?_) (by simp only [List.getElem?_toArray, List.getElem?_cons_succ, List.getElem?_cons_zero]; rfl) (by kernel_rfl) (by kernel_rfl) (by kernel_rfl) (by intro _ _ _ h; exact h) (Or.inl ⟨by rfl, ?_⟩) (by assumption) ?_
          rotate_left
          · intro w hSw; go_simp; try (with_reducible rfl)
          simp only [Act.put, List.setIfInBounds_toArray, List.set_cons_zero, List.set_cons_succ]
          refine wpAnyH_done (by kernel_rfl) ?_ _
          obtain ⟨A8, c8, hv8e, hl8, hC8⟩ := Kd.R_reads hv8
          have hzl : (wout [y.f0] (xs.drop (i + 1))).length ≤ 1000000 := by
            have := List.length_filter_le (fun o => !isOf [y.f0] o) (xs.drop (i + 1))
            show (List.filter _ _).length ≤ _
            omega
          have HNX2 := Aside0.mk HNX.out
          obtain ⟨zs, hzs⟩ : ∃ zs, zs = wout [y.f0] (xs.drop (i + 1)) := ⟨_, rfl⟩
          have HZS := Aside0.mk hzs
          rw [← hzs] at hv8e hl8 hC8 hzl
          clear hzs
          subst hv8e
          have htk : (xs.set i y).take (i + 1) = xs.take i ++ [y] := by
            rw [List.take_succ_eq_append_getElem (by rw [hsl]; omega), List.getElem_set_self, List.take_set_of_le (Nat.le_refl _)]
          have HO8 := Kd.R_take (m := i + 1) (Kd.R_below HO3.out hB8) (by rw [hsl]; omega)
          rw [htk] at HO8
          have HO9 := Aside0.mk HO8
          have HB8 := Aside0.mk (below_then HB3.out HB3.out.size hB8)
          have HC8 := Aside0.mk hC8
          have htake : ∀ W, (Instr.slice 23 (.slice (some ⟨g, 0, none⟩) xs.length c) none (some (.int .i64 ((i : Int) + 1))) none).run Tryd.prog W = .ok (.slice (some ⟨g, 0, none⟩) (i + 1) c) W := by
            intro W
            have hel : Tryd.prog.elem 23 = 49 := by simp [Program.elem, Tryd.underlying23]
            have hu : Tryd.prog.underlying 23 = some (.slice (Tryd.prog.elem 23)) := by rw [hel]; exact Tryd.underlying23
            obtain ⟨i0, hi0, hz0⟩ := Option.map_eq_some_iff.1 info49
            simp only [Prod.mk.injEq] at hz0
            rw [run_slice_h W 23 (some ⟨g, 0, none⟩) xs.length c hu .i64 ((i : Int) + 1) (by omega) (by omega), hel]
            rw [show ((i : Int) + 1).toNat = i + 1 by omega]
            simp [sizeOf, typeInfo, hi0, hz0.2.1, sliced, Result.andThen, add_plain]
          have hli : (xs.take i ++ [y]).length ≤ 1000001 := by simp; omega
          clear hC8 HO8 htk hl8 hv8 hb8 hB8 hHeld hHeld2 hwi hcut CL WT
          go_wp2_with ((with_reducible refine gate_builtin (b := .append) (xs := #[.tmp 43, .tmp 44]) rfl ?_); at_builtin; refine Kd.R_append_rows k49 (w0 := w) w.heap.size rfl (.tmp 43) (.tmp 44) 23 49 (.agg #[.string ⟨#[]⟩, .string ⟨#[]⟩]) 32 rfl Tryd.underlying23 info49 rfl (by decide) (by omega) (.slice (some ⟨g, 0, none⟩) (i + 1) c) (xs.take i ++ [y]) zs A8 zs.length c8 (fun _ => True) (fun _ => False) rfl rfl HO9.out HC8.out (fun x cs hk => by obtain rfl := k49_open hk; exact k49_mkM _ _ _ _) (fun _ hk => hk.elim) (fun _ _ => trivial) HB8.out HB8.out.size (by omega) ?_; intro v9 w9 ho hb hg hat; clear hg hat)
          go_roundw
          case rel => exact ⟨k + 1, by omega, by simp, ⟨by rw [HNX2.out, ← HZS.out]; exact ho⟩, ⟨hb⟩⟩
          case measure => simp [intOf]; omega
        refine AllReadyH.cons (o := _) (by simp only [List.getElem?_toArray, List.getElem?_cons_succ, List.getElem?_cons_zero]; rfl) (fun K hK => ?_) ?_
        · go_simp
          have hB5 : Below W3.heap.size W3 (W3.drew.alloc (.cells #[.string y.f0] 9)) := (below_drew (Below.refl _ _)).alloc (by simp) _
          (try go_simp)
          refine hK.out _ _ (K3F.out _ hB5) (fun hHeld2 => ?_)
          clear hK K
          (try simp only [Act.put, List.setIfInBounds_toArray, List.set_cons_zero, List.set_cons_succ])
          refine wpAnyH_ready (rs := [4]) (by kernel_rfl) (by simp) ?_
          refine AllReadyH.cons (o := _) (by simp only [List.getElem?_toArray, List.getElem?_cons_succ, List.getElem?_cons_zero]; rfl) (fun K hK => ?_) ?_
          rotate_left
          · exact AllReadyH.nil
          go_simp
          go_at_call 64
          refine (CL _ hB5).mono ?_
          rintro e w4 ⟨v4, rfl, hv4, hb4⟩
          obtain ⟨A4, c4, hv4e, hl4, hC4⟩ := Kd.R_reads hv4
          rw [hdn] at hv4e
          subst hv4e
          have hB4 : Below W3.heap.size W3 w4 := below_then hB5 hB5.size hb4
          (try go_simp)
          refine hK.out _ _ (K3F.out _ hB4) (fun hHeld2 => ?_)
          clear hK K
          (try simp only [Act.put, List.setIfInBounds_toArray, List.set_cons_zero, List.set_cons_succ])
          refine wpAnyH_ready (rs := [8]) (by kernel_rfl) (by simp) ?_
          refine AllReadyH.cons (o := _) (by simp only [List.getElem?_toArray, List.getElem?_cons_succ, List.getElem?_cons_zero]; rfl) (fun K hK => ?_) ?_
          rotate_left
          · exact AllReadyH.nil
          go_simp
          go_at_call 21
          refine (WT A4 c4 _ _ hC4 hl4 (Kd.C_below (C_one W3.drew y.f0) hb4)).mono ?_
          rintro e w8 ⟨v8, rfl, hv8, hb8⟩
          have hB8 : Below W3.heap.size W3 w8 := below_then hB4 hB4.size hb8
          (try go_simp)
          refine hK.out _ _ (K3F.out _ hB8) (fun hHeld2 => ?_)
          clear hK K
          (try simp only [Act.put, List.setIfInBounds_toArray, List.set_cons_zero, List.set_cons_succ])
          refine wpAnyH_take (i := 9) (oi := _) (v := ?_) (by simp only [List.getElem?_toArray, List.getElem?_cons_succ, List.getElem?_cons_zero]; rfl) (by kernel_rfl) (by kernel_rfl) (by kernel_rfl) (by intro _ _ _ h; exact h) (Or.inl ⟨by rfl, ?_⟩) (by assumption) ?_
          rotate_left
          · intro w hSw; go_simp; try (with_reducible rfl)
          simp only [Act.put, List.setIfInBounds_toArray, List.set_cons_zero, List.set_cons_succ]
          refine wpAnyH_done (by kernel_rfl) ?_ _
          obtain ⟨A8, c8, hv8e, hl8, hC8⟩ := Kd.R_reads hv8
          have hzl : (wout [y.f0] (xs.drop (i + 1))).length ≤ 1000000 := by
            have := List.length_filter_le (fun o => !isOf [y.f0] o) (xs.drop (i + 1))
            show (List.filter _ _).length ≤ _
            omega
          have HNX2 := Aside0.mk HNX.out
          obtain ⟨zs, hzs⟩ : ∃ zs, zs = wout [y.f0] (xs.drop (i + 1)) := ⟨_, rfl⟩
          have HZS := Aside0.mk hzs
          rw [← hzs] at hv8e hl8 hC8 hzl
          clear hzs
          subst hv8e
          have htk : (xs.set i y).take (i + 1) = xs.take i ++ [y] := by
            rw [List.take_succ_eq_append_getElem (by rw [hsl]; omega), List.getElem_set_self, List.take_set_of_le (Nat.le_refl _)]
          have HO8 := Kd.R_take (m := i + 1) (Kd.R_below HO3.out hB8) (by rw [hsl]; omega)
          rw [htk] at HO8
          have HO9 := Aside0.mk HO8
          have HB8 := Aside0.mk (below_then HB3.out HB3.out.size hB8)
          have HC8 := Aside0.mk hC8
          have htake : ∀ W, (Instr.slice 23 (.slice (some ⟨g, 0, none⟩) xs.length c) none (some (.int .i64 ((i : Int) + 1))) none).run Tryd.prog W = .ok (.slice (some ⟨g, 0, none⟩) (i + 1) c) W := by
            intro W
            have hel : Tryd.prog.elem 23 = 49 := by simp [Program.elem, Tryd.underlying23]
            have hu : Tryd.prog.underlying 23 = some (.slice (Tryd.prog.elem 23)) := by rw [hel]; exact Tryd.underlying23
            obtain ⟨i0, hi0, hz0⟩ := Option.map_eq_some_iff.1 info49
            simp only [Prod.mk.injEq] at hz0
            rw [run_slice_h W 23 (some ⟨g, 0, none⟩) xs.length c hu .i64 ((i : Int) + 1) (by omega) (by omega), hel]
            rw [show ((i : Int) + 1).toNat = i + 1 by omega]
            simp [sizeOf, typeInfo, hi0, hz0.2.1, sliced, Result.andThen, add_plain]
          have hli : (xs.take i ++ [y]).length ≤ 1000001 := by simp; omega
          clear hC8 HO8 htk hl8 hv8 hb8 hB8 hHeld hHeld2 hwi hcut CL WT
          go_wp2_with ((with_reducible refine gate_builtin (b := .append) (xs := #[.tmp 43, .tmp 44]) rfl ?_); at_builtin; refine Kd.R_append_rows k49 (w0 := w) w.heap.size rfl (.tmp 43) (.tmp 44) 23 49 (.agg #[.string ⟨#[]⟩, .string ⟨#[]⟩]) 32 rfl Tryd.underlying23 info49 rfl (by decide) (by omega) (.slice (some ⟨g, 0, none⟩) (i + 1) c) (xs.take i ++ [y]) zs A8 zs.length c8 (fun _ => True) (fun _ => False) rfl rfl HO9.out HC8.out (fun x cs hk => by obtain rfl := k49_open hk; exact k49_mkM _ _ _ _) (fun _ hk => hk.elim) (fun _ _ => trivial) HB8.out HB8.out.size (by omega) ?_; intro v9 w9 ho hb hg hat; clear hg hat)
          go_roundw
          case rel => exact ⟨k + 1, by omega, by simp, ⟨by rw [HNX2.out, ← HZS.out]; exact ho⟩, ⟨hb⟩⟩
          case measure => simp [intOf]; omega
        exact AllReadyH.nil
      · have hz : idxP (fun o => sameB y.f0 o.f0) xs = -1 := by unfold idxP; rw [if_neg hany]
        rw [hz]
        have hw1 : withOne xs y = xs ++ [y] := by unfold withOne; rw [if_neg hany]
        rw [hw1] at HNX
        clear hw1 hz hany
        go_wp2_with ((with_reducible refine gate_builtin (b := .append) (xs := #[.tmp 23, .tmp 25]) rfl ?_); at_builtin; refine Kd.R_append k49 (w0 := w) w.heap.size rfl (.tmp 23) (.tmp 25) 23 49 (.agg #[.string ⟨#[]⟩, .string ⟨#[]⟩]) 32 rfl Tryd.underlying23 info49 rfl (by decide) (by omega) (.slice A xs.length c) xs y [.string y.f0, .string y.f1] (fun _ => True) (fun _ => False) rfl rfl (k49_mkM _ _ _ y) (fun _ hk => hk.elim) (fun _ _ => trivial) HO2.out HB2.out HB2.out.size (by omega) ?_; intro v3 w3 ho hb hg hat; clear hg hat)
        go_roundw
        case rel => exact ⟨k + 1, by omega, by simp, ⟨by rw [HNX.out]; exact ho⟩, ⟨hb⟩⟩
        case measure => simp [intOf]; omega
    · have q5 : ((k : Int) < (l1.length : Int)) = False := eq_false (by omega)
      have hkl : k = l1.length := by omega
      subst hkl
      go_wp2
      go_ret
      exact ⟨_, rfl, by have := HO.out; rwa [List.take_length] at this, HB.out⟩

end Go.Proofs.YtcechlbeghcliaaDoor.PAll
