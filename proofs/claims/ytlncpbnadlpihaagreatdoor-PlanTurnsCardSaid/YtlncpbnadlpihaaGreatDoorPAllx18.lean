import Derived.Deep.Cut
import Derived.Deep.CutRange
import Derived.Deep.CutBlock
import Derived.Test.YtlncpbnadlpihaaGreatDoorPAllx0
import Derived.Test.YtlncpbnadlpihaaGreatDoorPAllx5
import Derived.Test.YtlncpbnadlpihaaGreatDoorPAllx7
namespace Go.Proofs.YtlncpbnadlpihaaGreatDoor.PAll
open Go.RowKit Go.Proofs.YtlncpbnadlpihaaGreatDoorW.PrintWords Go.Proofs.YtlncpbnadlpihaaGreatDoorW.PrintLast Go.Proofs.YtlncpbnadlpihaaGreatDoorW.PrintMore
attribute [local go_sem] max2_int min2_int max_two min_two max_three min_three max_four min_four   -- for this text's walks alone
set_option linter.unusedVariables false
set_option linter.unusedSimpArgs false

/-! ### pantrymade_SmallSites: function 9 -/
mutual
def pantrymade_SmallSites.l0 : Nat → List (S57) → Int → Int → List (S57) → Option (Bool)
 | 0, _, _, _, _ => none
 | k + 1, x8, x9, x10, x295000 => if x10 < x9 then (if 0 ≤ x10 then (if x10 < (x8.length : Int) then (if (((rd_T57 x8 x10).f0).size : Int) > 100 then (pantrymade_SmallSites.j1 k x8 x9 x10 true x295000 ((rd_T57 x8 x10).f0) ((rd_T57 x8 x10).f1) ((rd_T57 x8 x10).f2) ((rd_T57 x8 x10).f3) ((rd_T57 x8 x10).f4) ((rd_T57 x8 x10).f5) ((rd_T57 x8 x10).f6)) else (pantrymade_SmallSites.j1 k x8 x9 x10 (decide ((((rd_T57 x8 x10).f6).length : Int) > 10)) x295000 ((rd_T57 x8 x10).f0) ((rd_T57 x8 x10).f1) ((rd_T57 x8 x10).f2) ((rd_T57 x8 x10).f3) ((rd_T57 x8 x10).f4) ((rd_T57 x8 x10).f5) ((rd_T57 x8 x10).f6))) else (none)) else (none)) else (some (decide ((x295000.length : Int) ≤ 12)))
def pantrymade_SmallSites.j1 : Nat → List (S57) → Int → Int → Bool → List (S57) → ByteArray → Int → Int → Int → Bool → Bool → List ByteArray → Option (Bool)
 | 0, _, _, _, _, _, _, _, _, _, _, _, _ => none
 | k + 1, x8, x9, x10, x23, x295000, x297000, x297001, x297002, x297003, x297004, x297005, x297006 => if x23 = true then (some false) else (pantrymade_SmallSites.l1 k x8 x9 x10 x297006 (x297006.length : Int) 0 x295000)
def pantrymade_SmallSites.l1 : Nat → List (S57) → Int → Int → List ByteArray → Int → Int → List (S57) → Option (Bool)
 | 0, _, _, _, _, _, _, _ => none
 | k + 1, x8, x9, x10, x25, x26, x27, x295000 => if x27 < x26 then (if 0 ≤ x27 then (if x27 < (x25.length : Int) then (if ((rdOf ByteArray.empty x25 x27).size : Int) > 100 then (some false) else (pantrymade_SmallSites.l1 k x8 x9 x10 x25 x26 (wrap64 (x27 + 1)) x295000)) else (none)) else (none)) else (pantrymade_SmallSites.l0 k x8 x9 (wrap64 (x10 + 1)) x295000)
end
def pantrymade_SmallSites.f (k : Nat) (l0_0 : List (S57)) : Option (Bool) := pantrymade_SmallSites.l0 k l0_0 (l0_0.length : Int) 0 l0_0
theorem pantrymade_SmallSites.mono_l : ∀ k, (∀ y0 y1 y2 y3, LeO (pantrymade_SmallSites.l0 k y0 y1 y2 y3) (pantrymade_SmallSites.l0 (k + 1) y0 y1 y2 y3)) ∧ (∀ y0 y1 y2 y3 y4 y5 y6 y7 y8 y9 y10 y11, LeO (pantrymade_SmallSites.j1 k y0 y1 y2 y3 y4 y5 y6 y7 y8 y9 y10 y11) (pantrymade_SmallSites.j1 (k + 1) y0 y1 y2 y3 y4 y5 y6 y7 y8 y9 y10 y11)) ∧ (∀ y0 y1 y2 y3 y4 y5 y6, LeO (pantrymade_SmallSites.l1 k y0 y1 y2 y3 y4 y5 y6) (pantrymade_SmallSites.l1 (k + 1) y0 y1 y2 y3 y4 y5 y6))
 | 0 => ⟨fun _ _ _ _ r h => by simp [pantrymade_SmallSites.l0] at h, fun _ _ _ _ _ _ _ _ _ _ _ _ r h => by simp [pantrymade_SmallSites.j1] at h, fun _ _ _ _ _ _ _ r h => by simp [pantrymade_SmallSites.l1] at h⟩
 | k + 1 => by
  obtain ⟨ih0, ih1, ih2⟩ := pantrymade_SmallSites.mono_l k
  refine ⟨?_, ?_, ?_⟩
  ·
   intro y0 y1 y2 y3
   unfold pantrymade_SmallSites.l0
   repeat' (with_reducible first | exact ih0 _ _ _ _ | exact ih1 _ _ _ _ _ _ _ _ _ _ _ _ | exact ih2 _ _ _ _ _ _ _ | exact lR_ | refine LeO.ite ?_ ?_ | refine LeO.bind ?_ (fun _ => ?_))
  ·
   intro y0 y1 y2 y3 y4 y5 y6 y7 y8 y9 y10 y11
   unfold pantrymade_SmallSites.j1
   repeat' (with_reducible first | exact ih0 _ _ _ _ | exact ih1 _ _ _ _ _ _ _ _ _ _ _ _ | exact ih2 _ _ _ _ _ _ _ | exact lR_ | refine LeO.ite ?_ ?_ | refine LeO.bind ?_ (fun _ => ?_))
  ·
   intro y0 y1 y2 y3 y4 y5 y6
   unfold pantrymade_SmallSites.l1
   repeat' (with_reducible first | exact ih0 _ _ _ _ | exact ih1 _ _ _ _ _ _ _ _ _ _ _ _ | exact ih2 _ _ _ _ _ _ _ | exact lR_ | refine LeO.ite ?_ ?_ | refine LeO.bind ?_ (fun _ => ?_))
theorem pantrymade_SmallSites.mono : ∀ a0 k, LeO (pantrymade_SmallSites.f k a0) (pantrymade_SmallSites.f (k + 1) a0) := by
 intro a0 k
 obtain ⟨ih0, ih1, ih2⟩ := pantrymade_SmallSites.mono_l k
 unfold pantrymade_SmallSites.f
 repeat' (with_reducible first | exact ih0 _ _ _ _ | exact ih1 _ _ _ _ _ _ _ _ _ _ _ _ | exact ih2 _ _ _ _ _ _ _ | exact lR_ | refine LeO.ite ?_ ?_ | refine LeO.bind ?_ (fun _ => ?_))
set_option maxHeartbeats 8000000 in
set_option maxRecDepth 100000 in
theorem pantrymade_SmallSites.calls (k : Nat) (A0_0 : Option Addr) (c0_0 : Nat) (l0_0 : List (S57)) (r : Bool) (w : World) (hr0_0 : Kd.C k57 w A0_0 l0_0.length l0_0) (hc0_0 : l0_0.length ≤ c0_0) (h : pantrymade_SmallSites.f k l0_0 = some r) :
  Calls Tryz.prog 9 #[.agg #[.slice A0_0 l0_0.length c0_0]] w fun e w' => e = .returned (.bool r) ∧ Below w.heap.size w w' := by
 have hu24 := Tryz.underlying24
 have hu57 := Tryz.underlying57
 have HR0_0 := Aside0.mk hr0_0
 have HC0_0 := Aside0.mk hc0_0
 clear hr0_0 hc0_0
 have HB := Aside0.mk (Below.refl w.heap.size w)
 have H : (pantrymade_SmallSites.l0 k l0_0 (l0_0.length : Int) 0 l0_0) = some r := h
 clear h
 have H' := Aside0.mk H
 clear H
 go_enter Tryz.func9, Tryz.ntmps9
 go_wp2_with (first | ((with_reducible refine gate_dst (N := 1) rfl ?_); (try (refine gate_guard (by rfl) ?_; dsimp only)); refine box_event ?hg (N := 1) ?hd (cs := #[.slice A0_0 l0_0.length c0_0]) (t := 24) ?hr ?_; (case hd | hg => rfl); (case hr => exact S1_); intro gb294 hg w2 hbox hb; have BK294 := Aside0.mk (hbox); have GW294 := Aside0.mk ((Z1_ : w.heap.size ≤ gb294)); have GE294 := Aside0.mk ((Z1_ : w.heap.size ≤ gb294)); replace HB := y1_ hb; clear hb hbox hg; obtain ⟨z3_0, y3_0⟩ := cz1_ BK294.out))
 go_loopg [10] k (fun kq v10 w' => ∃ (x10_1 : Int), v10 = .int .i64 x10_1 ∧ Aside0 (pantrymade_SmallSites.l0 kq l0_0 (l0_0.length : Int) x10_1 l0_0 = some r) ∧ Aside0 (kq ≤ k) ∧ Aside0 (w'.heap[gb294]? = some (.cells #[(.slice A0_0 l0_0.length c0_0)] 24 (0, 0))) ∧ Aside0 (Below w.heap.size w w'))
 case atStart => exact ⟨(0), E3_, H', ⟨Nat.le_refl _⟩, ⟨B1_ BK294.out⟩, ⟨W2_⟩⟩
 case round =>
  clear H'
  (try clear z3_0 y3_0)
  obtain ⟨x10_1, rfl, HA, HK1, BK294, HB⟩ := hrel
  cases gk with
  | zero => exact absurd HA.out (by simp [pantrymade_SmallSites.l0])
  | succ k1 =>
   have H := HA.out
   clear HA
   simp only [pantrymade_SmallSites.l0] at H
   by_cases c4 : x10_1 < (l0_0.length : Int)
   ·
    rw [if_pos c4] at H
    have c4b0 : decide (x10_1 < (l0_0.length : Int)) = true := decide_eq_true c4
    clear c4
    by_cases c5 : 0 ≤ x10_1
    ·
     rw [if_pos c5] at H
     have c5b0 : decide (0 ≤ x10_1) = true := decide_eq_true c5
     clear c5
     by_cases c6 : x10_1 < (l0_0.length : Int)
     ·
      rw [if_pos c6] at H
      have c6b0 : decide (x10_1 < (l0_0.length : Int)) = true := decide_eq_true c6
      clear c6
      have HC7 := Aside0.mk H
      clear H
      have p295 : 0 ≤ (x10_1 : Int) := oA_
      have q295 : x10_1 < (l0_0.length : Int) := oA_
      obtain ⟨ad295, A295_6, c295_6, e295, hx295_0, hx295_1, hx295_2, hx295_3, hx295_4, hx295_5, hx295_6, hl295_6, hi295_6⟩ := at_T57 HR0_0.out x10_1 p295 q295
      cases e295
      replace hx295_0 := (HB.out.cell (World.block_lt_of_cell? w _ hx295_0)).trans hx295_0
      replace hx295_1 := (HB.out.cell (World.block_lt_of_cell? w _ hx295_1)).trans hx295_1
      replace hx295_2 := (HB.out.cell (World.block_lt_of_cell? w _ hx295_2)).trans hx295_2
      replace hx295_3 := (HB.out.cell (World.block_lt_of_cell? w _ hx295_3)).trans hx295_3
      replace hx295_4 := (HB.out.cell (World.block_lt_of_cell? w _ hx295_4)).trans hx295_4
      replace hx295_5 := (HB.out.cell (World.block_lt_of_cell? w _ hx295_5)).trans hx295_5
      replace hx295_6 := (HB.out.cell (World.block_lt_of_cell? w _ hx295_6)).trans hx295_6
      have HR295_6 := Aside0.mk hi295_6
      have HC295_6 := Aside0.mk hl295_6
      clear hi295_6 hl295_6
      replace p295 := eq_true p295
      replace q295 := eq_true q295
      go_upto_region 4 with (first | ((with_reducible refine gate_dst (N := 4) rfl ?_); (try (refine gate_guard (by rfl) ?_; dsimp only)); refine box_event ?hg (N := 4) ?hd (cs := #[.string (⟨#[]⟩ : ByteArray), .int .i64 0, .int .i64 0, .int .i64 0, .bool false, .bool false, .slice none 0 0]) (t := 57) ?hr ?_; (case hd | hg => rfl); (case hr => exact S1_); intro gb296 hg w8 hbox hb; have BK296 := Aside0.mk (hbox); have GW296 := Aside0.mk ((Z2_ : w.heap.size ≤ gb296)); have GE296 := Aside0.mk ((Z2_ : w.heap.size ≤ gb296)); have NB294_296 := Aside0.mk ((by rw [hg]; exact Nat.ne_of_lt (blk_lt (B1_ BK294.out)) : gb294 ≠ gb296)); have NB296_294 := Aside0.mk ((by rw [hg]; exact Nat.ne_of_gt (blk_lt (B1_ BK294.out)) : gb296 ≠ gb294)); replace BK294 := yB_ BK294 hb; replace HB := y2_ hb; clear hb hbox hg; have hnb9 := NB296_294.out; have hnc9 := NB294_296.out; obtain ⟨z10_0, z10_1, z10_2, z10_3, z10_4, z10_5, z10_6, y10_0, y10_1, y10_2, y10_3, y10_4, y10_5, y10_6⟩ := cz7_ BK296.out))
      (try simp only [Act.put, sA_, sZ_, sS_])
      go_cut [23] (fun v23 wc => ∃ (kq : Nat) (x23_6 : Bool), v23 = .bool x23_6 ∧ Aside0 (pantrymade_SmallSites.j1 kq l0_0 (l0_0.length : Int) x10_1 x23_6 l0_0 ((rd_T57 l0_0 x10_1).f0) ((rd_T57 l0_0 x10_1).f1) ((rd_T57 l0_0 x10_1).f2) ((rd_T57 l0_0 x10_1).f3) ((rd_T57 l0_0 x10_1).f4) ((rd_T57 l0_0 x10_1).f5) ((rd_T57 l0_0 x10_1).f6) = some r) ∧ Aside0 (kq ≤ k1) ∧ Aside0 (wc.heap[gb294]? = some (.cells #[(.slice (some ad295) l0_0.length c0_0)] 24 (0, 0))) ∧ Aside0 (wc.heap[gb296]? = some (.cells #[.string ((rd_T57 l0_0 x10_1).f0), .int .i64 ((rd_T57 l0_0 x10_1).f1), .int .i64 ((rd_T57 l0_0 x10_1).f2), .int .i64 ((rd_T57 l0_0 x10_1).f3), .bool ((rd_T57 l0_0 x10_1).f4), .bool ((rd_T57 l0_0 x10_1).f5), (.slice A295_6 ((rd_T57 l0_0 x10_1).f6).length c295_6)] 57 (0, 0))) ∧ Aside0 (Below w.heap.size w wc))
      case first =>
       have H := HC7.out
       clear HC7
       by_cases c11 : (((rd_T57 l0_0 x10_1).f0).size : Int) > 100
       ·
        rw [if_pos c11] at H
        have c11b0 : decide (100 < (((rd_T57 l0_0 x10_1).f0).size : Int)) = true := decide_eq_true c11
        have c11b1 : decide (100 < ((rd_T57 l0_0 x10_1).f0).size) = true := decide_eq_true (by omega)
        clear c11
        (first | rw [c11b0] | (simp only [i64_w, i32_w]; rw [c11b0]) | skip)
        have H' := Aside0.mk H
        clear H
        have hnb12 := NB296_294.out
        have hnc12 := NB294_296.out
        obtain ⟨z13_0, z13_1, z13_2, z13_3, z13_4, z13_5, z13_6, y13_0, y13_1, y13_2, y13_3, y13_4, y13_5, y13_6⟩ := cz7_ BK296.out
        go_wp2
        go_meet
        case rel => exact ⟨_, (true), E3_, H', ⟨by have := HK1.out; first | omega | exact Nat.le_refl _⟩, ⟨G1_ BK294.out⟩, ⟨G1_ BK296.out⟩, ⟨W2_⟩⟩
       ·
        rw [if_neg c11] at H
        have c11b0 : decide (100 < (((rd_T57 l0_0 x10_1).f0).size : Int)) = false := decide_eq_false c11
        have c11b1 : decide (100 < ((rd_T57 l0_0 x10_1).f0).size) = false := decide_eq_false (by omega)
        clear c11
        (first | rw [c11b0] | (simp only [i64_w, i32_w]; rw [c11b0]) | skip)
        have H' := Aside0.mk H
        clear H
        have hnb14 := NB296_294.out
        have hnc14 := NB294_296.out
        obtain ⟨z15_0, z15_1, z15_2, z15_3, z15_4, z15_5, z15_6, y15_0, y15_1, y15_2, y15_3, y15_4, y15_5, y15_6⟩ := cz7_ BK296.out
        go_wp2
        go_meet
        case rel => exact ⟨_, (decide ((((rd_T57 l0_0 x10_1).f6).length : Int) > 10)), E3_, H', ⟨by have := HK1.out; first | omega | exact Nat.le_refl _⟩, ⟨G1_ BK294.out⟩, ⟨G1_ BK296.out⟩, ⟨W2_⟩⟩
      case rest =>
       clear HC7
       (try clear c4); (try clear c4b0); (try clear c5); (try clear c5b0); (try clear c6); (try clear c6b0); (try clear c11); (try clear c11b0); (try clear c11b1); (try clear z10_0 z10_1 z10_2 z10_3 z10_4 z10_5 z10_6 y10_0 y10_1 y10_2 y10_3 y10_4 y10_5 y10_6); (try clear z13_0 z13_1 z13_2 z13_3 z13_4 z13_5 z13_6 y13_0 y13_1 y13_2 y13_3 y13_4 y13_5 y13_6); (try clear z15_0 z15_1 z15_2 z15_3 z15_4 z15_5 z15_6 y15_0 y15_1 y15_2 y15_3 y15_4 y15_5 y15_6); (try clear z3_0 y3_0); (try clear hx295_0); (try clear hx295_1); (try clear hx295_2); (try clear hx295_3); (try clear hx295_4); (try clear hx295_5); (try clear hx295_6); (try clear p295); (try clear q295)
       obtain ⟨kq, x23_6, rfl, HA, HJ6, BK294, BK296, HB⟩ := hcut
       cases kq with
       | zero => exact absurd HA.out (by simp [pantrymade_SmallSites.j1])
       | succ kj6 =>
        have H := HA.out
        clear HA
        simp only [pantrymade_SmallSites.j1] at H
        by_cases c16 : x23_6 = true
        ·
         subst c16
         rw [if_pos rfl] at H
         obtain rfl := Option.some.inj H
         go_wp2
         go_ret
         exact ⟨E1_, W2_⟩
        ·
         replace c16 := Bool.eq_false_iff.mpr c16
         subst c16
         rw [if_neg (show ¬ (false = true) by decide)] at H
         have H' := Aside0.mk H
         clear H
         have hnb17 := NB296_294.out
         have hnc17 := NB294_296.out
         obtain ⟨z18_0, z18_1, z18_2, z18_3, z18_4, z18_5, z18_6, y18_0, y18_1, y18_2, y18_3, y18_4, y18_5, y18_6⟩ := cz7_ BK296.out
         go_wp2
         go_loopg [27] kj6 (fun kq v27 w' => ∃ (x27_3 : Int), v27 = .int .i64 x27_3 ∧ Aside0 (pantrymade_SmallSites.l1 kq l0_0 (l0_0.length : Int) x10_1 ((rd_T57 l0_0 x10_1).f6) (((rd_T57 l0_0 x10_1).f6).length : Int) x27_3 l0_0 = some r) ∧ Aside0 (kq ≤ kj6) ∧ Aside0 (w'.heap[gb294]? = some (.cells #[(.slice (some ad295) l0_0.length c0_0)] 24 (0, 0))) ∧ Aside0 (w'.heap[gb296]? = some (.cells #[.string ((rd_T57 l0_0 x10_1).f0), .int .i64 ((rd_T57 l0_0 x10_1).f1), .int .i64 ((rd_T57 l0_0 x10_1).f2), .int .i64 ((rd_T57 l0_0 x10_1).f3), .bool ((rd_T57 l0_0 x10_1).f4), .bool ((rd_T57 l0_0 x10_1).f5), (.slice A295_6 ((rd_T57 l0_0 x10_1).f6).length c295_6)] 57 (0, 0))) ∧ Aside0 (Below w.heap.size w w'))
         case atStart => exact ⟨(0), E3_, H', ⟨Nat.le_refl _⟩, ⟨B1_ BK294.out⟩, ⟨B1_ BK296.out⟩, ⟨W2_⟩⟩
         case round =>
          clear H'
          (try clear c4); (try clear c4b0); (try clear c5); (try clear c5b0); (try clear c6); (try clear c6b0); (try clear c11); (try clear c11b0); (try clear c11b1); (try clear c16); (try clear z10_0 z10_1 z10_2 z10_3 z10_4 z10_5 z10_6 y10_0 y10_1 y10_2 y10_3 y10_4 y10_5 y10_6); (try clear z13_0 z13_1 z13_2 z13_3 z13_4 z13_5 z13_6 y13_0 y13_1 y13_2 y13_3 y13_4 y13_5 y13_6); (try clear z15_0 z15_1 z15_2 z15_3 z15_4 z15_5 z15_6 y15_0 y15_1 y15_2 y15_3 y15_4 y15_5 y15_6); (try clear z18_0 z18_1 z18_2 z18_3 z18_4 z18_5 z18_6 y18_0 y18_1 y18_2 y18_3 y18_4 y18_5 y18_6); (try clear z3_0 y3_0); (try clear hx295_0); (try clear hx295_1); (try clear hx295_2); (try clear hx295_3); (try clear hx295_4); (try clear hx295_5); (try clear hx295_6); (try clear p295); (try clear q295)
          obtain ⟨x27_3, rfl, HA, HK3, BK294, BK296, HB⟩ := hrel
          cases gk with
          | zero => exact absurd HA.out (by simp [pantrymade_SmallSites.l1])
          | succ k3 =>
           have H := HA.out
           clear HA
           simp only [pantrymade_SmallSites.l1] at H
           by_cases c19 : x27_3 < (((rd_T57 l0_0 x10_1).f6).length : Int)
           ·
            rw [if_pos c19] at H
            have c19b0 : decide (x27_3 < (((rd_T57 l0_0 x10_1).f6).length : Int)) = true := decide_eq_true c19
            clear c19
            by_cases c20 : 0 ≤ x27_3
            ·
             rw [if_pos c20] at H
             have c20b0 : decide (0 ≤ x27_3) = true := decide_eq_true c20
             clear c20
             by_cases c21 : x27_3 < (((rd_T57 l0_0 x10_1).f6).length : Int)
             ·
              rw [if_pos c21] at H
              have c21b0 : decide (x27_3 < (((rd_T57 l0_0 x10_1).f6).length : Int)) = true := decide_eq_true c21
              clear c21
              by_cases c22 : ((rdOf ByteArray.empty ((rd_T57 l0_0 x10_1).f6) x27_3).size : Int) > 100
              ·
               rw [if_pos c22] at H
               have c22b0 : decide (100 < ((rdOf ByteArray.empty ((rd_T57 l0_0 x10_1).f6) x27_3).size : Int)) = true := decide_eq_true c22
               have c22b1 : decide (100 < (rdOf ByteArray.empty ((rd_T57 l0_0 x10_1).f6) x27_3).size) = true := decide_eq_true (by omega)
               clear c22
               obtain rfl := Option.some.inj H
               have p297 : 0 ≤ (x27_3 : Int) := oA_
               have q297 : x27_3 < (((rd_T57 l0_0 x10_1).f6).length : Int) := oA_
               obtain ⟨ad297, e297, hx297_0⟩ := Kd.at_string HR295_6.out x27_3 p297 q297
               cases e297
               replace hx297_0 := (HB.out.cell (World.block_lt_of_cell? w _ hx297_0)).trans hx297_0
               replace p297 := eq_true p297
               replace q297 := eq_true q297
               go_wp2
               go_ret
               exact ⟨E1_, W2_⟩
              ·
               rw [if_neg c22] at H
               have c22b0 : decide (100 < ((rdOf ByteArray.empty ((rd_T57 l0_0 x10_1).f6) x27_3).size : Int)) = false := decide_eq_false c22
               have c22b1 : decide (100 < (rdOf ByteArray.empty ((rd_T57 l0_0 x10_1).f6) x27_3).size) = false := decide_eq_false (by omega)
               clear c22
               have H' := Aside0.mk H
               clear H
               have p297 : 0 ≤ (x27_3 : Int) := oA_
               have q297 : x27_3 < (((rd_T57 l0_0 x10_1).f6).length : Int) := oA_
               obtain ⟨ad297, e297, hx297_0⟩ := Kd.at_string HR295_6.out x27_3 p297 q297
               cases e297
               replace hx297_0 := (HB.out.cell (World.block_lt_of_cell? w _ hx297_0)).trans hx297_0
               replace p297 := eq_true p297
               replace q297 := eq_true q297
               go_wp2
               go_roundg k3
               case measure => have := HK1.out; have := HJ6.out; have := HK3.out; omega
               case rel => exact ⟨(wrap64 (x27_3 + 1)), E3_, H', ⟨by have := HK1.out; have := HJ6.out; have := HK3.out; omega⟩, ⟨B1_ BK294.out⟩, ⟨B1_ BK296.out⟩, ⟨W2_⟩⟩
             ·
              rw [if_neg c21] at H
              exact absurd H (by simp)
            ·
             rw [if_neg c20] at H
             exact absurd H (by simp)
           ·
            rw [if_neg c19] at H
            have c19b0 : decide (x27_3 < (((rd_T57 l0_0 x10_1).f6).length : Int)) = false := decide_eq_false c19
            clear c19
            have H' := Aside0.mk H
            clear H
            go_wp2
            go_roundg k3
            case measure => have := HK1.out; have := HJ6.out; have := HK3.out; omega
            case rel => exact ⟨(wrap64 (x10_1 + 1)), E3_, H', ⟨by have := HK1.out; have := HJ6.out; have := HK3.out; omega⟩, ⟨B1_ BK294.out⟩, ⟨W2_⟩⟩
     ·
      rw [if_neg c6] at H
      exact absurd H (by simp)
    ·
     rw [if_neg c5] at H
     exact absurd H (by simp)
   ·
    rw [if_neg c4] at H
    have c4b0 : decide (x10_1 < (l0_0.length : Int)) = false := decide_eq_false c4
    clear c4
    obtain rfl := Option.some.inj H
    obtain ⟨z23_0, y23_0⟩ := cz1_ BK294.out
    go_wp2
    go_ret
    exact ⟨E1_, W2_⟩

/-! ### plan_Diff: function 10 -/
def plan_Diff.f (k : Nat) (l0_0 : List (S57)) (l1_0 : List (S57)) : Option ((List (S40)) × Int) := (conf_Config_Right.f k l0_0).bind fun t300 => (if t300 = true then ((conf_Config_Right.f k l1_0).bind fun t301 => (if t301 = true then ((plan_diff.f k l0_0 l1_0).bind fun t302 => (some (t302, 0))) else (some (([] : List (S40)), 10)))) else (some (([] : List (S40)), 10)))
theorem plan_Diff.mono : ∀ a0 a1 k, LeO (plan_Diff.f k a0 a1) (plan_Diff.f (k + 1) a0 a1) := by
 intro a0 a1 k
 unfold plan_Diff.f
 repeat' (with_reducible first | exact conf_Config_Right.mono _ _ | exact plan_diff.mono _ _ _ | exact lR_ | refine LeO.ite ?_ ?_ | refine LeO.bind ?_ (fun _ => ?_))
set_option maxHeartbeats 8000000 in
set_option maxRecDepth 100000 in
theorem plan_Diff.calls (k : Nat) (A0_0 : Option Addr) (c0_0 : Nat) (l0_0 : List (S57)) (A1_0 : Option Addr) (c1_0 : Nat) (l1_0 : List (S57)) (r1 : List (S40)) (r2 : Int) (w : World) (hr0_0 : Kd.C k57 w A0_0 l0_0.length l0_0) (hc0_0 : l0_0.length ≤ c0_0) (hr1_0 : Kd.C k57 w A1_0 l1_0.length l1_0) (hc1_0 : l1_0.length ≤ c1_0) (h : plan_Diff.f k l0_0 l1_0 = some (r1, r2)) :
  Calls Tryz.prog 10 #[.agg #[.slice A0_0 l0_0.length c0_0], .agg #[.slice A1_0 l1_0.length c1_0]] w fun e w' => ∃ v0_ : Value, e = .returned (.tuple #[v0_, .int .i64 r2]) ∧ Kd.R k40 40 w' w.heap.size (fun _ => True) v0_ r1 ∧ Below w.heap.size w w' := by
 have hu24 := Tryz.underlying24
 have HR0_0 := Aside0.mk hr0_0
 have HC0_0 := Aside0.mk hc0_0
 clear hr0_0 hc0_0
 have HR1_0 := Aside0.mk hr1_0
 have HC1_0 := Aside0.mk hc1_0
 clear hr1_0 hc1_0
 have HB := Aside0.mk (Below.refl w.heap.size w)
 have H : ((conf_Config_Right.f k l0_0).bind fun t300 => (if t300 = true then ((conf_Config_Right.f k l1_0).bind fun t301 => (if t301 = true then ((plan_diff.f k l0_0 l1_0).bind fun t302 => (some (t302, 0))) else (some (([] : List (S40)), 10)))) else (some (([] : List (S40)), 10)))) = some (r1, r2) := h
 clear h
 obtain ⟨t300, A3, H⟩ := bS_ H
 try dsimp only at H
 by_cases c4 : t300 = true
 ·
  subst c4
  rw [if_pos rfl] at H
  obtain ⟨t301, A5, H⟩ := bS_ H
  try dsimp only at H
  by_cases c6 : t301 = true
  ·
   subst c6
   rw [if_pos rfl] at H
   obtain ⟨t302, A7, H⟩ := bS_ H
   try dsimp only at H
   simp only [Option.some.injEq, Prod.mk.injEq] at H
   obtain ⟨rfl, rfl⟩ := H
   go_enter Tryz.func10, Tryz.ntmps10
   go_wp2_with (first | ((with_reducible refine gate_dst (N := 2) rfl ?_); refine box_event ?hg (N := 2) ?hd (cs := #[.slice A0_0 l0_0.length c0_0]) (t := 24) ?hr ?_; (case hd | hg => rfl); (case hr => exact S1_); intro gb298 hg w8 hbox hb; have BK298 := Aside0.mk (hbox); have GW298 := Aside0.mk ((Z1_ : w.heap.size ≤ gb298)); have GE298 := Aside0.mk ((Z1_ : w.heap.size ≤ gb298)); replace HB := y1_ hb; clear hb hbox hg) | ((with_reducible refine gate_dst (N := 3) rfl ?_); refine box_event ?hg (N := 3) ?hd (cs := #[.slice A1_0 l1_0.length c1_0]) (t := 24) ?hr ?_; (case hd | hg => rfl); (case hr => exact S1_); intro gb299 hg w9 hbox hb; have BK299 := Aside0.mk (hbox); have GW299 := Aside0.mk ((Z2_ : w.heap.size ≤ gb299)); have GE299 := Aside0.mk ((Z2_ : w.heap.size ≤ gb299)); have NB298_299 := Aside0.mk ((by rw [hg]; exact Nat.ne_of_lt (blk_lt (B1_ BK298.out)) : gb298 ≠ gb299)); have NB299_298 := Aside0.mk ((by rw [hg]; exact Nat.ne_of_gt (blk_lt (B1_ BK298.out)) : gb299 ≠ gb298)); replace BK298 := yB_ BK298 hb; replace HB := y2_ hb; clear hb hbox hg; have hnb10 := NB298_299.out; have hnc10 := NB299_298.out; obtain ⟨z11_0, y11_0⟩ := cz1_ BK298.out) | ((with_reducible refine gate_callee (f := 15) rfl ?_); refine goesL_ (some 7) rfl rfl Tryz.func15 (by kernel_rfl) rfl #[.agg #[.slice A0_0 l0_0.length c0_0]] rfl T1_ ?_; (with_reducible refine (conf_Config_Right.calls k _ _ l0_0 true _ ?side1 ?side2 A3.out).mono ?_); (case side1 => exact C1_ ((Kd.C_below HR0_0.out HB.out))); (case side2 => exact HC0_0.out); rintro e w12 ⟨rfl, hb⟩; refine ⟨_, rfl, ?_⟩; replace BK298 := yB_ BK298 hb; replace BK299 := yB_ BK299 hb; replace HB := y2_ hb; (try clear hb); obtain ⟨z13_0, y13_0⟩ := cz1_ BK299.out) | (go_at_call 15; (with_reducible refine (conf_Config_Right.calls k _ _ l1_0 true _ ?side1 ?side2 A5.out).mono ?_); (case side1 => exact C1_ ((Kd.C_below HR1_0.out HB.out))); (case side2 => exact HC1_0.out); rintro e w14 ⟨rfl, hb⟩; replace BK298 := yB_ BK298 hb; replace BK299 := yB_ BK299 hb; replace HB := y2_ hb; (try clear hb); obtain ⟨z15_0, y15_0⟩ := cz1_ BK298.out; obtain ⟨z16_0, y16_0⟩ := cz1_ BK299.out) | ((with_reducible refine gate_callee (f := 34) rfl ?_); refine goesL_ (some 16) rfl rfl Tryz.func34 (by kernel_rfl) rfl #[.agg #[.slice A0_0 l0_0.length c0_0], .agg #[.slice A1_0 l1_0.length c1_0]] rfl T1_ ?_; (with_reducible refine (plan_diff.calls k _ _ l0_0 _ _ l1_0 t302 _ ?side1 ?side2 ?side3 ?side4 A7.out).mono ?_); (case side1 => exact C1_ ((Kd.C_below HR0_0.out HB.out))); (case side2 => exact HC0_0.out); (case side3 => exact C1_ ((Kd.C_below HR1_0.out HB.out))); (case side4 => exact HC1_0.out); rintro e w17 ⟨v303, rfl, ho0, hb⟩; refine ⟨_, rfl, ?_⟩; have HO304 := Aside0.mk (Kd.R_lower ho0 (below_size W2_)); replace BK298 := yB_ BK298 hb; replace BK299 := yB_ BK299 hb; replace HB := y2_ hb; (try clear hb); (try clear ho0)))
   go_ret2
   exact ⟨_, E1_, by refine R1_ ?_; exact HO304.out, W2_⟩
  ·
   replace c6 := Bool.eq_false_iff.mpr c6
   subst c6
   rw [if_neg (show ¬ (false = true) by decide)] at H
   simp only [Option.some.injEq, Prod.mk.injEq] at H
   obtain ⟨rfl, rfl⟩ := H
   go_enter Tryz.func10, Tryz.ntmps10
   go_wp2_with (first | ((with_reducible refine gate_dst (N := 2) rfl ?_); refine box_event ?hg (N := 2) ?hd (cs := #[.slice A0_0 l0_0.length c0_0]) (t := 24) ?hr ?_; (case hd | hg => rfl); (case hr => exact S1_); intro gb298 hg w18 hbox hb; have BK298 := Aside0.mk (hbox); have GW298 := Aside0.mk ((Z1_ : w.heap.size ≤ gb298)); have GE298 := Aside0.mk ((Z1_ : w.heap.size ≤ gb298)); replace HB := y1_ hb; clear hb hbox hg) | ((with_reducible refine gate_dst (N := 3) rfl ?_); refine box_event ?hg (N := 3) ?hd (cs := #[.slice A1_0 l1_0.length c1_0]) (t := 24) ?hr ?_; (case hd | hg => rfl); (case hr => exact S1_); intro gb299 hg w19 hbox hb; have BK299 := Aside0.mk (hbox); have GW299 := Aside0.mk ((Z2_ : w.heap.size ≤ gb299)); have GE299 := Aside0.mk ((Z2_ : w.heap.size ≤ gb299)); have NB298_299 := Aside0.mk ((by rw [hg]; exact Nat.ne_of_lt (blk_lt (B1_ BK298.out)) : gb298 ≠ gb299)); have NB299_298 := Aside0.mk ((by rw [hg]; exact Nat.ne_of_gt (blk_lt (B1_ BK298.out)) : gb299 ≠ gb298)); replace BK298 := yB_ BK298 hb; replace HB := y2_ hb; clear hb hbox hg; have hnb20 := NB298_299.out; have hnc20 := NB299_298.out; obtain ⟨z21_0, y21_0⟩ := cz1_ BK298.out) | ((with_reducible refine gate_callee (f := 15) rfl ?_); refine goesL_ (some 7) rfl rfl Tryz.func15 (by kernel_rfl) rfl #[.agg #[.slice A0_0 l0_0.length c0_0]] rfl T1_ ?_; (with_reducible refine (conf_Config_Right.calls k _ _ l0_0 true _ ?side1 ?side2 A3.out).mono ?_); (case side1 => exact C1_ ((Kd.C_below HR0_0.out HB.out))); (case side2 => exact HC0_0.out); rintro e w22 ⟨rfl, hb⟩; refine ⟨_, rfl, ?_⟩; replace BK298 := yB_ BK298 hb; replace BK299 := yB_ BK299 hb; replace HB := y2_ hb; (try clear hb); obtain ⟨z23_0, y23_0⟩ := cz1_ BK299.out) | (go_at_call 15; (with_reducible refine (conf_Config_Right.calls k _ _ l1_0 false _ ?side1 ?side2 A5.out).mono ?_); (case side1 => exact C1_ ((Kd.C_below HR1_0.out HB.out))); (case side2 => exact HC1_0.out); rintro e w24 ⟨rfl, hb⟩; replace BK298 := yB_ BK298 hb; replace BK299 := yB_ BK299 hb; replace HB := y2_ hb; (try clear hb)))
   go_ret2
   exact ⟨_, E1_, by first | exact Kd.R_nil _ _ _ _ _ | exact Kd.N_nil _ _ _ _ _ | exact Kd.V_nil _ _ _ _ _ | exact Kd.Q_nil _ _ _ _ _ | exact Kd.S_nil _ _ _ _ _, W2_⟩
 ·
  replace c4 := Bool.eq_false_iff.mpr c4
  subst c4
  rw [if_neg (show ¬ (false = true) by decide)] at H
  simp only [Option.some.injEq, Prod.mk.injEq] at H
  obtain ⟨rfl, rfl⟩ := H
  go_enter Tryz.func10, Tryz.ntmps10
  go_wp2_with (first | ((with_reducible refine gate_dst (N := 2) rfl ?_); refine box_event ?hg (N := 2) ?hd (cs := #[.slice A0_0 l0_0.length c0_0]) (t := 24) ?hr ?_; (case hd | hg => rfl); (case hr => exact S1_); intro gb298 hg w25 hbox hb; have BK298 := Aside0.mk (hbox); have GW298 := Aside0.mk ((Z1_ : w.heap.size ≤ gb298)); have GE298 := Aside0.mk ((Z1_ : w.heap.size ≤ gb298)); replace HB := y1_ hb; clear hb hbox hg) | ((with_reducible refine gate_dst (N := 3) rfl ?_); refine box_event ?hg (N := 3) ?hd (cs := #[.slice A1_0 l1_0.length c1_0]) (t := 24) ?hr ?_; (case hd | hg => rfl); (case hr => exact S1_); intro gb299 hg w26 hbox hb; have BK299 := Aside0.mk (hbox); have GW299 := Aside0.mk ((Z2_ : w.heap.size ≤ gb299)); have GE299 := Aside0.mk ((Z2_ : w.heap.size ≤ gb299)); have NB298_299 := Aside0.mk ((by rw [hg]; exact Nat.ne_of_lt (blk_lt (B1_ BK298.out)) : gb298 ≠ gb299)); have NB299_298 := Aside0.mk ((by rw [hg]; exact Nat.ne_of_gt (blk_lt (B1_ BK298.out)) : gb299 ≠ gb298)); replace BK298 := yB_ BK298 hb; replace HB := y2_ hb; clear hb hbox hg; have hnb27 := NB298_299.out; have hnc27 := NB299_298.out; obtain ⟨z28_0, y28_0⟩ := cz1_ BK298.out) | ((with_reducible refine gate_callee (f := 15) rfl ?_); refine goesL_ (some 7) rfl rfl Tryz.func15 (by kernel_rfl) rfl #[.agg #[.slice A0_0 l0_0.length c0_0]] rfl T1_ ?_; (with_reducible refine (conf_Config_Right.calls k _ _ l0_0 false _ ?side1 ?side2 A3.out).mono ?_); (case side1 => exact C1_ ((Kd.C_below HR0_0.out HB.out))); (case side2 => exact HC0_0.out); rintro e w29 ⟨rfl, hb⟩; refine ⟨_, rfl, ?_⟩; replace BK298 := yB_ BK298 hb; replace BK299 := yB_ BK299 hb; replace HB := y2_ hb; (try clear hb)))
  go_ret2
  exact ⟨_, E1_, by first | exact Kd.R_nil _ _ _ _ _ | exact Kd.N_nil _ _ _ _ _ | exact Kd.V_nil _ _ _ _ _ | exact Kd.Q_nil _ _ _ _ _ | exact Kd.S_nil _ _ _ _ _, W2_⟩

end Go.Proofs.YtlncpbnadlpihaaGreatDoor.PAll
