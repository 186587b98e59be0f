import Derived.Test.YtgpekljckdgggaaGreatDoorPAllx0
namespace Go.Proofs.YtgpekljckdgggaaGreatDoor.PAll
open Go.RowKit Go.Proofs.YtgpekljckdgggaaGreatDoorW.PrintWords Go.Proofs.YtgpekljckdgggaaGreatDoorW.PrintLast Go.Proofs.YtgpekljckdgggaaGreatDoorW.PrintMore
attribute [local go_sem] max2_int min2_int max_two min_two max_three min_three max_four min_four   -- for this text's walks alone
set_option linter.unusedVariables false
set_option linter.unusedSimpArgs false

/-! ### pantrymade_SmallSites: function 26 -/
mutual
def pantrymade_SmallSites.l0 : Nat → List (S24) → Int → Int → List (S24) → Option (Bool)
 | 0, _, _, _, _ => none
 | k + 1, x8, x9, x10, x266000 => if x10 < x9 then (if 0 ≤ x10 then (if x10 < (x8.length : Int) then (if (((rd_T24 x8 x10).f0).size : Int) > 100 then (pantrymade_SmallSites.j1 k x8 x9 x10 true x266000 ((rd_T24 x8 x10).f0) ((rd_T24 x8 x10).f1) ((rd_T24 x8 x10).f2) ((rd_T24 x8 x10).f3) ((rd_T24 x8 x10).f4) ((rd_T24 x8 x10).f5) ((rd_T24 x8 x10).f6)) else (pantrymade_SmallSites.j1 k x8 x9 x10 (decide ((((rd_T24 x8 x10).f6).length : Int) > 10)) x266000 ((rd_T24 x8 x10).f0) ((rd_T24 x8 x10).f1) ((rd_T24 x8 x10).f2) ((rd_T24 x8 x10).f3) ((rd_T24 x8 x10).f4) ((rd_T24 x8 x10).f5) ((rd_T24 x8 x10).f6))) else (none)) else (none)) else (some (decide ((x266000.length : Int) ≤ 12)))
def pantrymade_SmallSites.j1 : Nat → List (S24) → Int → Int → Bool → List (S24) → ByteArray → Int → Int → Int → Bool → Bool → List ByteArray → Option (Bool)
 | 0, _, _, _, _, _, _, _, _, _, _, _, _ => none
 | k + 1, x8, x9, x10, x23, x266000, x268000, x268001, x268002, x268003, x268004, x268005, x268006 => if x23 = true then (some false) else (pantrymade_SmallSites.l1 k x8 x9 x10 x268006 (x268006.length : Int) 0 x266000)
def pantrymade_SmallSites.l1 : Nat → List (S24) → Int → Int → List ByteArray → Int → Int → List (S24) → Option (Bool)
 | 0, _, _, _, _, _, _, _ => none
 | k + 1, x8, x9, x10, x25, x26, x27, x266000 => if x27 < x26 then (if 0 ≤ x27 then (if x27 < (x25.length : Int) then (if ((rdOf ByteArray.empty x25 x27).size : Int) > 100 then (some false) else (pantrymade_SmallSites.l1 k x8 x9 x10 x25 x26 (wrap64 (x27 + 1)) x266000)) else (none)) else (none)) else (pantrymade_SmallSites.l0 k x8 x9 (wrap64 (x10 + 1)) x266000)
end
def pantrymade_SmallSites.f (k : Nat) (l0_0 : List (S24)) : Option (Bool) := pantrymade_SmallSites.l0 k l0_0 (l0_0.length : Int) 0 l0_0
theorem pantrymade_SmallSites.mono_l : ∀ k, (∀ y0 y1 y2 y3, LeO (pantrymade_SmallSites.l0 k y0 y1 y2 y3) (pantrymade_SmallSites.l0 (k + 1) y0 y1 y2 y3)) ∧ (∀ y0 y1 y2 y3 y4 y5 y6 y7 y8 y9 y10 y11, LeO (pantrymade_SmallSites.j1 k y0 y1 y2 y3 y4 y5 y6 y7 y8 y9 y10 y11) (pantrymade_SmallSites.j1 (k + 1) y0 y1 y2 y3 y4 y5 y6 y7 y8 y9 y10 y11)) ∧ (∀ y0 y1 y2 y3 y4 y5 y6, LeO (pantrymade_SmallSites.l1 k y0 y1 y2 y3 y4 y5 y6) (pantrymade_SmallSites.l1 (k + 1) y0 y1 y2 y3 y4 y5 y6))
 | 0 => ⟨fun _ _ _ _ r h => by simp [pantrymade_SmallSites.l0] at h, fun _ _ _ _ _ _ _ _ _ _ _ _ r h => by simp [pantrymade_SmallSites.j1] at h, fun _ _ _ _ _ _ _ r h => by simp [pantrymade_SmallSites.l1] at h⟩
 | k + 1 => by
  obtain ⟨ih0, ih1, ih2⟩ := pantrymade_SmallSites.mono_l k
  refine ⟨?_, ?_, ?_⟩
  ·
   intro y0 y1 y2 y3
   unfold pantrymade_SmallSites.l0
   repeat' (with_reducible first | exact ih0 _ _ _ _ | exact ih1 _ _ _ _ _ _ _ _ _ _ _ _ | exact ih2 _ _ _ _ _ _ _ | exact lR_ | refine LeO.ite ?_ ?_ | refine LeO.bind ?_ (fun _ => ?_))
  ·
   intro y0 y1 y2 y3 y4 y5 y6 y7 y8 y9 y10 y11
   unfold pantrymade_SmallSites.j1
   repeat' (with_reducible first | exact ih0 _ _ _ _ | exact ih1 _ _ _ _ _ _ _ _ _ _ _ _ | exact ih2 _ _ _ _ _ _ _ | exact lR_ | refine LeO.ite ?_ ?_ | refine LeO.bind ?_ (fun _ => ?_))
  ·
   intro y0 y1 y2 y3 y4 y5 y6
   unfold pantrymade_SmallSites.l1
   repeat' (with_reducible first | exact ih0 _ _ _ _ | exact ih1 _ _ _ _ _ _ _ _ _ _ _ _ | exact ih2 _ _ _ _ _ _ _ | exact lR_ | refine LeO.ite ?_ ?_ | refine LeO.bind ?_ (fun _ => ?_))
theorem pantrymade_SmallSites.mono : ∀ a0 k, LeO (pantrymade_SmallSites.f k a0) (pantrymade_SmallSites.f (k + 1) a0) := by
 intro a0 k
 obtain ⟨ih0, ih1, ih2⟩ := pantrymade_SmallSites.mono_l k
 unfold pantrymade_SmallSites.f
 repeat' (with_reducible first | exact ih0 _ _ _ _ | exact ih1 _ _ _ _ _ _ _ _ _ _ _ _ | exact ih2 _ _ _ _ _ _ _ | exact lR_ | refine LeO.ite ?_ ?_ | refine LeO.bind ?_ (fun _ => ?_))
set_option maxHeartbeats 8000000 in
set_option maxRecDepth 100000 in
theorem pantrymade_SmallSites.calls (k : Nat) (A0_0 : Option Addr) (c0_0 : Nat) (l0_0 : List (S24)) (r : Bool) (w : World) (hr0_0 : Kd.C k24 w A0_0 l0_0.length l0_0) (hc0_0 : l0_0.length ≤ c0_0) (h : pantrymade_SmallSites.f k l0_0 = some r) :
  Calls Tryz.prog 26 #[.agg #[.slice A0_0 l0_0.length c0_0]] w fun e w' => e = .returned (.bool r) ∧ Below w.heap.size w w' := by
 have hu55 := Tryz.underlying55
 have hu24 := Tryz.underlying24
 have HR0_0 := Aside0.mk hr0_0
 have HC0_0 := Aside0.mk hc0_0
 clear hr0_0 hc0_0
 have HB := Aside0.mk (Below.refl w.heap.size w)
 have H : (pantrymade_SmallSites.l0 k l0_0 (l0_0.length : Int) 0 l0_0) = some r := h
 clear h
 have H' := Aside0.mk H
 clear H
 go_enter Tryz.func26, Tryz.ntmps26
 go_wp2_with (first | ((with_reducible refine gate_dst (N := 1) rfl ?_); (try (refine gate_guard (by rfl) ?_; dsimp only)); refine box_event ?hg (N := 1) ?hd (cs := #[.slice A0_0 l0_0.length c0_0]) (t := 55) ?hr ?_; (case hd | hg => rfl); (case hr => exact S1_); intro gb265 hg w2 hbox hb; have BK265 := Aside0.mk (hbox); have GW265 := Aside0.mk ((Z1_ : w.heap.size ≤ gb265)); have GE265 := Aside0.mk ((Z1_ : w.heap.size ≤ gb265)); replace HB := y1_ hb; clear hb hbox hg; obtain ⟨z3_0, y3_0⟩ := cz1_ BK265.out))
 go_loopg [10] k (fun kq v10 w' => ∃ (x10_1 : Int), v10 = .int .i64 x10_1 ∧ Aside0 (pantrymade_SmallSites.l0 kq l0_0 (l0_0.length : Int) x10_1 l0_0 = some r) ∧ Aside0 (kq ≤ k) ∧ Aside0 (w'.heap[gb265]? = some (.cells #[(.slice A0_0 l0_0.length c0_0)] 55 (0, 0))) ∧ Aside0 (Below w.heap.size w w'))
 case atStart => exact ⟨(0), E3_, H', ⟨Nat.le_refl _⟩, ⟨B1_ BK265.out⟩, ⟨W2_⟩⟩
 case round =>
  clear H'
  (try clear z3_0 y3_0)
  obtain ⟨x10_1, rfl, HA, HK1, BK265, HB⟩ := hrel
  cases gk with
  | zero => exact absurd HA.out (by simp [pantrymade_SmallSites.l0])
  | succ k1 =>
   have H := HA.out
   clear HA
   simp only [pantrymade_SmallSites.l0] at H
   by_cases c4 : x10_1 < (l0_0.length : Int)
   ·
    rw [if_pos c4] at H
    have c4b0 : decide (x10_1 < (l0_0.length : Int)) = true := decide_eq_true c4
    clear c4
    by_cases c5 : 0 ≤ x10_1
    ·
     rw [if_pos c5] at H
     have c5b0 : decide (0 ≤ x10_1) = true := decide_eq_true c5
     clear c5
     by_cases c6 : x10_1 < (l0_0.length : Int)
     ·
      rw [if_pos c6] at H
      have c6b0 : decide (x10_1 < (l0_0.length : Int)) = true := decide_eq_true c6
      clear c6
      have HC7 := Aside0.mk H
      clear H
      have p266 : 0 ≤ (x10_1 : Int) := oA_
      have q266 : x10_1 < (l0_0.length : Int) := oA_
      obtain ⟨ad266, A266_6, c266_6, e266, hx266_0, hx266_1, hx266_2, hx266_3, hx266_4, hx266_5, hx266_6, hl266_6, hi266_6⟩ := at_T24 HR0_0.out x10_1 p266 q266
      cases e266
      replace hx266_0 := (HB.out.cell (World.block_lt_of_cell? w _ hx266_0)).trans hx266_0
      replace hx266_1 := (HB.out.cell (World.block_lt_of_cell? w _ hx266_1)).trans hx266_1
      replace hx266_2 := (HB.out.cell (World.block_lt_of_cell? w _ hx266_2)).trans hx266_2
      replace hx266_3 := (HB.out.cell (World.block_lt_of_cell? w _ hx266_3)).trans hx266_3
      replace hx266_4 := (HB.out.cell (World.block_lt_of_cell? w _ hx266_4)).trans hx266_4
      replace hx266_5 := (HB.out.cell (World.block_lt_of_cell? w _ hx266_5)).trans hx266_5
      replace hx266_6 := (HB.out.cell (World.block_lt_of_cell? w _ hx266_6)).trans hx266_6
      have HR266_6 := Aside0.mk hi266_6
      have HC266_6 := Aside0.mk hl266_6
      clear hi266_6 hl266_6
      replace p266 := eq_true p266
      replace q266 := eq_true q266
      go_upto_region 4 with (first | ((with_reducible refine gate_dst (N := 4) rfl ?_); (try (refine gate_guard (by rfl) ?_; dsimp only)); refine box_event ?hg (N := 4) ?hd (cs := #[.string (⟨#[]⟩ : ByteArray), .int .i64 0, .int .i64 0, .int .i64 0, .bool false, .bool false, .slice none 0 0]) (t := 24) ?hr ?_; (case hd | hg => rfl); (case hr => exact S1_); intro gb267 hg w8 hbox hb; have BK267 := Aside0.mk (hbox); have GW267 := Aside0.mk ((Z2_ : w.heap.size ≤ gb267)); have GE267 := Aside0.mk ((Z2_ : w.heap.size ≤ gb267)); have NB265_267 := Aside0.mk ((by rw [hg]; exact Nat.ne_of_lt (blk_lt (B1_ BK265.out)) : gb265 ≠ gb267)); have NB267_265 := Aside0.mk ((by rw [hg]; exact Nat.ne_of_gt (blk_lt (B1_ BK265.out)) : gb267 ≠ gb265)); replace BK265 := yB_ BK265 hb; replace HB := y2_ hb; clear hb hbox hg; have hnb9 := NB267_265.out; have hnc9 := NB265_267.out; obtain ⟨z10_0, z10_1, z10_2, z10_3, z10_4, z10_5, z10_6, y10_0, y10_1, y10_2, y10_3, y10_4, y10_5, y10_6⟩ := cz7_ BK267.out))
      (try simp only [Act.put, sA_, sZ_, sS_])
      go_cut [23] (fun v23 wc => ∃ (kq : Nat) (x23_6 : Bool), v23 = .bool x23_6 ∧ Aside0 (pantrymade_SmallSites.j1 kq l0_0 (l0_0.length : Int) x10_1 x23_6 l0_0 ((rd_T24 l0_0 x10_1).f0) ((rd_T24 l0_0 x10_1).f1) ((rd_T24 l0_0 x10_1).f2) ((rd_T24 l0_0 x10_1).f3) ((rd_T24 l0_0 x10_1).f4) ((rd_T24 l0_0 x10_1).f5) ((rd_T24 l0_0 x10_1).f6) = some r) ∧ Aside0 (kq ≤ k1) ∧ Aside0 (wc.heap[gb265]? = some (.cells #[(.slice (some ad266) l0_0.length c0_0)] 55 (0, 0))) ∧ Aside0 (wc.heap[gb267]? = some (.cells #[.string ((rd_T24 l0_0 x10_1).f0), .int .i64 ((rd_T24 l0_0 x10_1).f1), .int .i64 ((rd_T24 l0_0 x10_1).f2), .int .i64 ((rd_T24 l0_0 x10_1).f3), .bool ((rd_T24 l0_0 x10_1).f4), .bool ((rd_T24 l0_0 x10_1).f5), (.slice A266_6 ((rd_T24 l0_0 x10_1).f6).length c266_6)] 24 (0, 0))) ∧ Aside0 (Below w.heap.size w wc))
      case first =>
       have H := HC7.out
       clear HC7
       by_cases c11 : (((rd_T24 l0_0 x10_1).f0).size : Int) > 100
       ·
        rw [if_pos c11] at H
        have c11b0 : decide (100 < (((rd_T24 l0_0 x10_1).f0).size : Int)) = true := decide_eq_true c11
        have c11b1 : decide (100 < ((rd_T24 l0_0 x10_1).f0).size) = true := decide_eq_true (by omega)
        clear c11
        (first | rw [c11b0] | (simp only [i64_w, i32_w]; rw [c11b0]) | skip)
        have H' := Aside0.mk H
        clear H
        have hnb12 := NB267_265.out
        have hnc12 := NB265_267.out
        obtain ⟨z13_0, z13_1, z13_2, z13_3, z13_4, z13_5, z13_6, y13_0, y13_1, y13_2, y13_3, y13_4, y13_5, y13_6⟩ := cz7_ BK267.out
        go_wp2
        go_meet
        case rel => exact ⟨_, (true), E3_, H', ⟨by have := HK1.out; first | omega | exact Nat.le_refl _⟩, ⟨G1_ BK265.out⟩, ⟨G1_ BK267.out⟩, ⟨W2_⟩⟩
       ·
        rw [if_neg c11] at H
        have c11b0 : decide (100 < (((rd_T24 l0_0 x10_1).f0).size : Int)) = false := decide_eq_false c11
        have c11b1 : decide (100 < ((rd_T24 l0_0 x10_1).f0).size) = false := decide_eq_false (by omega)
        clear c11
        (first | rw [c11b0] | (simp only [i64_w, i32_w]; rw [c11b0]) | skip)
        have H' := Aside0.mk H
        clear H
        have hnb14 := NB267_265.out
        have hnc14 := NB265_267.out
        obtain ⟨z15_0, z15_1, z15_2, z15_3, z15_4, z15_5, z15_6, y15_0, y15_1, y15_2, y15_3, y15_4, y15_5, y15_6⟩ := cz7_ BK267.out
        go_wp2
        go_meet
        case rel => exact ⟨_, (decide ((((rd_T24 l0_0 x10_1).f6).length : Int) > 10)), E3_, H', ⟨by have := HK1.out; first | omega | exact Nat.le_refl _⟩, ⟨G1_ BK265.out⟩, ⟨G1_ BK267.out⟩, ⟨W2_⟩⟩
      case rest =>
       clear HC7
       (try clear c4); (try clear c4b0); (try clear c5); (try clear c5b0); (try clear c6); (try clear c6b0); (try clear c11); (try clear c11b0); (try clear c11b1); (try clear z10_0 z10_1 z10_2 z10_3 z10_4 z10_5 z10_6 y10_0 y10_1 y10_2 y10_3 y10_4 y10_5 y10_6); (try clear z13_0 z13_1 z13_2 z13_3 z13_4 z13_5 z13_6 y13_0 y13_1 y13_2 y13_3 y13_4 y13_5 y13_6); (try clear z15_0 z15_1 z15_2 z15_3 z15_4 z15_5 z15_6 y15_0 y15_1 y15_2 y15_3 y15_4 y15_5 y15_6); (try clear z3_0 y3_0); (try clear hx266_0); (try clear hx266_1); (try clear hx266_2); (try clear hx266_3); (try clear hx266_4); (try clear hx266_5); (try clear hx266_6); (try clear p266); (try clear q266)
       obtain ⟨kq, x23_6, rfl, HA, HJ6, BK265, BK267, HB⟩ := hcut
       cases kq with
       | zero => exact absurd HA.out (by simp [pantrymade_SmallSites.j1])
       | succ kj6 =>
        have H := HA.out
        clear HA
        simp only [pantrymade_SmallSites.j1] at H
        by_cases c16 : x23_6 = true
        ·
         subst c16
         rw [if_pos rfl] at H
         obtain rfl := Option.some.inj H
         go_wp2
         go_ret
         exact ⟨E1_, W2_⟩
        ·
         replace c16 := Bool.eq_false_iff.mpr c16
         subst c16
         rw [if_neg (show ¬ (false = true) by decide)] at H
         have H' := Aside0.mk H
         clear H
         have hnb17 := NB267_265.out
         have hnc17 := NB265_267.out
         obtain ⟨z18_0, z18_1, z18_2, z18_3, z18_4, z18_5, z18_6, y18_0, y18_1, y18_2, y18_3, y18_4, y18_5, y18_6⟩ := cz7_ BK267.out
         go_wp2
         go_loopg [27] kj6 (fun kq v27 w' => ∃ (x27_3 : Int), v27 = .int .i64 x27_3 ∧ Aside0 (pantrymade_SmallSites.l1 kq l0_0 (l0_0.length : Int) x10_1 ((rd_T24 l0_0 x10_1).f6) (((rd_T24 l0_0 x10_1).f6).length : Int) x27_3 l0_0 = some r) ∧ Aside0 (kq ≤ kj6) ∧ Aside0 (w'.heap[gb265]? = some (.cells #[(.slice (some ad266) l0_0.length c0_0)] 55 (0, 0))) ∧ Aside0 (w'.heap[gb267]? = some (.cells #[.string ((rd_T24 l0_0 x10_1).f0), .int .i64 ((rd_T24 l0_0 x10_1).f1), .int .i64 ((rd_T24 l0_0 x10_1).f2), .int .i64 ((rd_T24 l0_0 x10_1).f3), .bool ((rd_T24 l0_0 x10_1).f4), .bool ((rd_T24 l0_0 x10_1).f5), (.slice A266_6 ((rd_T24 l0_0 x10_1).f6).length c266_6)] 24 (0, 0))) ∧ Aside0 (Below w.heap.size w w'))
         case atStart => exact ⟨(0), E3_, H', ⟨Nat.le_refl _⟩, ⟨B1_ BK265.out⟩, ⟨B1_ BK267.out⟩, ⟨W2_⟩⟩
         case round =>
          clear H'
          (try clear c4); (try clear c4b0); (try clear c5); (try clear c5b0); (try clear c6); (try clear c6b0); (try clear c11); (try clear c11b0); (try clear c11b1); (try clear c16); (try clear z10_0 z10_1 z10_2 z10_3 z10_4 z10_5 z10_6 y10_0 y10_1 y10_2 y10_3 y10_4 y10_5 y10_6); (try clear z13_0 z13_1 z13_2 z13_3 z13_4 z13_5 z13_6 y13_0 y13_1 y13_2 y13_3 y13_4 y13_5 y13_6); (try clear z15_0 z15_1 z15_2 z15_3 z15_4 z15_5 z15_6 y15_0 y15_1 y15_2 y15_3 y15_4 y15_5 y15_6); (try clear z18_0 z18_1 z18_2 z18_3 z18_4 z18_5 z18_6 y18_0 y18_1 y18_2 y18_3 y18_4 y18_5 y18_6); (try clear z3_0 y3_0); (try clear hx266_0); (try clear hx266_1); (try clear hx266_2); (try clear hx266_3); (try clear hx266_4); (try clear hx266_5); (try clear hx266_6); (try clear p266); (try clear q266)
          obtain ⟨x27_3, rfl, HA, HK3, BK265, BK267, HB⟩ := hrel
          cases gk with
          | zero => exact absurd HA.out (by simp [pantrymade_SmallSites.l1])
          | succ k3 =>
           have H := HA.out
           clear HA
           simp only [pantrymade_SmallSites.l1] at H
           by_cases c19 : x27_3 < (((rd_T24 l0_0 x10_1).f6).length : Int)
           ·
            rw [if_pos c19] at H
            have c19b0 : decide (x27_3 < (((rd_T24 l0_0 x10_1).f6).length : Int)) = true := decide_eq_true c19
            clear c19
            by_cases c20 : 0 ≤ x27_3
            ·
             rw [if_pos c20] at H
             have c20b0 : decide (0 ≤ x27_3) = true := decide_eq_true c20
             clear c20
             by_cases c21 : x27_3 < (((rd_T24 l0_0 x10_1).f6).length : Int)
             ·
              rw [if_pos c21] at H
              have c21b0 : decide (x27_3 < (((rd_T24 l0_0 x10_1).f6).length : Int)) = true := decide_eq_true c21
              clear c21
              by_cases c22 : ((rdOf ByteArray.empty ((rd_T24 l0_0 x10_1).f6) x27_3).size : Int) > 100
              ·
               rw [if_pos c22] at H
               have c22b0 : decide (100 < ((rdOf ByteArray.empty ((rd_T24 l0_0 x10_1).f6) x27_3).size : Int)) = true := decide_eq_true c22
               have c22b1 : decide (100 < (rdOf ByteArray.empty ((rd_T24 l0_0 x10_1).f6) x27_3).size) = true := decide_eq_true (by omega)
               clear c22
               obtain rfl := Option.some.inj H
               have p268 : 0 ≤ (x27_3 : Int) := oA_
               have q268 : x27_3 < (((rd_T24 l0_0 x10_1).f6).length : Int) := oA_
               obtain ⟨ad268, e268, hx268_0⟩ := Kd.at_string HR266_6.out x27_3 p268 q268
               cases e268
               replace hx268_0 := (HB.out.cell (World.block_lt_of_cell? w _ hx268_0)).trans hx268_0
               replace p268 := eq_true p268
               replace q268 := eq_true q268
               go_wp2
               go_ret
               exact ⟨E1_, W2_⟩
              ·
               rw [if_neg c22] at H
               have c22b0 : decide (100 < ((rdOf ByteArray.empty ((rd_T24 l0_0 x10_1).f6) x27_3).size : Int)) = false := decide_eq_false c22
               have c22b1 : decide (100 < (rdOf ByteArray.empty ((rd_T24 l0_0 x10_1).f6) x27_3).size) = false := decide_eq_false (by omega)
               clear c22
               have H' := Aside0.mk H
               clear H
               have p268 : 0 ≤ (x27_3 : Int) := oA_
               have q268 : x27_3 < (((rd_T24 l0_0 x10_1).f6).length : Int) := oA_
               obtain ⟨ad268, e268, hx268_0⟩ := Kd.at_string HR266_6.out x27_3 p268 q268
               cases e268
               replace hx268_0 := (HB.out.cell (World.block_lt_of_cell? w _ hx268_0)).trans hx268_0
               replace p268 := eq_true p268
               replace q268 := eq_true q268
               go_wp2
               go_roundg k3
               case measure => have := HK1.out; have := HJ6.out; have := HK3.out; omega
               case rel => exact ⟨(wrap64 (x27_3 + 1)), E3_, H', ⟨by have := HK1.out; have := HJ6.out; have := HK3.out; omega⟩, ⟨B1_ BK265.out⟩, ⟨B1_ BK267.out⟩, ⟨W2_⟩⟩
             ·
              rw [if_neg c21] at H
              exact absurd H (by simp)
            ·
             rw [if_neg c20] at H
             exact absurd H (by simp)
           ·
            rw [if_neg c19] at H
            have c19b0 : decide (x27_3 < (((rd_T24 l0_0 x10_1).f6).length : Int)) = false := decide_eq_false c19
            clear c19
            have H' := Aside0.mk H
            clear H
            go_wp2
            go_roundg k3
            case measure => have := HK1.out; have := HJ6.out; have := HK3.out; omega
            case rel => exact ⟨(wrap64 (x10_1 + 1)), E3_, H', ⟨by have := HK1.out; have := HJ6.out; have := HK3.out; omega⟩, ⟨B1_ BK265.out⟩, ⟨W2_⟩⟩
     ·
      rw [if_neg c6] at H
      exact absurd H (by simp)
    ·
     rw [if_neg c5] at H
     exact absurd H (by simp)
   ·
    rw [if_neg c4] at H
    have c4b0 : decide (x10_1 < (l0_0.length : Int)) = false := decide_eq_false c4
    clear c4
    obtain rfl := Option.some.inj H
    obtain ⟨z23_0, y23_0⟩ := cz1_ BK265.out
    go_wp2
    go_ret
    exact ⟨E1_, W2_⟩

/-! ### pantrylaw12_fit: function 11 -/
def pantrylaw12_fit.f (k : Nat) (a0_0 : ByteArray) (a0_1 : Int) (a0_2 : Int) (a0_3 : Int) (a0_4 : Bool) (a0_5 : Bool) (l0_6 : List ByteArray) : Option (Bool) := (pantrymade_SmallSites.f k (([(⟨a0_0, a0_1, a0_2, a0_3, a0_4, a0_5, l0_6⟩ : S24)] : List (S24)))).bind fun t273 => (if t273 = true then (if a0_2 ≥ 0 then (if a0_3 ≥ 0 then (if a0_2 ≤ 2147483648 then (some (decide (a0_3 ≤ 2147483648))) else (some false)) else (some false)) else (some false)) else (some false))
theorem pantrylaw12_fit.mono : ∀ a0 a1 a2 a3 a4 a5 a6 k, LeO (pantrylaw12_fit.f k a0 a1 a2 a3 a4 a5 a6) (pantrylaw12_fit.f (k + 1) a0 a1 a2 a3 a4 a5 a6) := by
 intro a0 a1 a2 a3 a4 a5 a6 k
 unfold pantrylaw12_fit.f
 repeat' (with_reducible first | exact pantrymade_SmallSites.mono _ _ | exact lR_ | refine LeO.ite ?_ ?_ | refine LeO.bind ?_ (fun _ => ?_))
set_option maxHeartbeats 8000000 in
set_option maxRecDepth 100000 in
theorem pantrylaw12_fit.calls (k : Nat) (a0_0 : ByteArray) (a0_1 : Int) (a0_2 : Int) (a0_3 : Int) (a0_4 : Bool) (a0_5 : Bool) (P0_6_ : Nat → Prop) (A0_6 : Option Addr) (c0_6 : Nat) (l0_6 : List ByteArray) (r : Bool) (w : World) (hs0_6 : Kd.V Kd.string 9 w w.heap.size (fun k_ => P0_6_ k_) (.slice A0_6 l0_6.length c0_6) l0_6) (h : pantrylaw12_fit.f k a0_0 a0_1 a0_2 a0_3 a0_4 a0_5 l0_6 = some r) :
  Calls Tryz.prog 11 #[.agg #[.string a0_0, .int .i64 a0_1, .int .i64 a0_2, .int .i64 a0_3, .bool a0_4, .bool a0_5, .slice A0_6 l0_6.length c0_6]] w fun e w' => e = .returned (.bool r) ∧ Below w.heap.size w w' := by
 have hu24 := Tryz.underlying24
 have hu55 := Tryz.underlying55
 have HO0_6 := Aside0.mk (show Kd.V Kd.string 9 w w.heap.size (fun k_ => (P0_6_ k_ ∨ w.heap.size ≤ k_)) (.slice A0_6 l0_6.length c0_6) l0_6 from Kd.V_mono hs0_6 (fun k_ hk => .inl hk))
 have HB := Aside0.mk (Below.refl w.heap.size w)
 have H : ((pantrymade_SmallSites.f k (([(⟨a0_0, a0_1, a0_2, a0_3, a0_4, a0_5, l0_6⟩ : S24)] : List (S24)))).bind fun t273 => (if t273 = true then (if a0_2 ≥ 0 then (if a0_3 ≥ 0 then (if a0_2 ≤ 2147483648 then (some (decide (a0_3 ≤ 2147483648))) else (some false)) else (some false)) else (some false)) else (some false))) = some r := h
 clear h
 obtain ⟨y270, hy270⟩ : ∃ y_ : List (S24), y_ = (([(⟨a0_0, a0_1, a0_2, a0_3, a0_4, a0_5, l0_6⟩ : S24)] : List (S24))) := ⟨_, rfl⟩
 replace H : ((pantrymade_SmallSites.f k y270).bind fun t273 => (if t273 = true then (if a0_2 ≥ 0 then (if a0_3 ≥ 0 then (if a0_2 ≤ 2147483648 then (some (decide (a0_3 ≤ 2147483648))) else (some false)) else (some false)) else (some false)) else (some false))) = some r := by first | (rw [hy270]; with_reducible exact H) | (have H2_ := (Option.bind_some _ _).symm.trans H; rw [hy270]; with_reducible exact H2_) | (have H2_ := (Option.bind_some _ _).symm.trans H; with_reducible exact H2_) | with_reducible exact H | (rw [hy270]; exact H) | exact H
 have Ny270 := Aside0.mk hy270
 clear hy270
 obtain ⟨t273, A2, H⟩ := bS_ H
 try dsimp only at H
 by_cases c3 : t273 = true
 ·
  subst c3
  rw [if_pos rfl] at H
  by_cases c4 : a0_2 ≥ 0
  ·
   rw [if_pos c4] at H
   have c4b0 : decide (0 ≤ a0_2) = true := decide_eq_true c4
   clear c4
   by_cases c5 : a0_3 ≥ 0
   ·
    rw [if_pos c5] at H
    have c5b0 : decide (0 ≤ a0_3) = true := decide_eq_true c5
    clear c5
    by_cases c6 : a0_2 ≤ 2147483648
    ·
     rw [if_pos c6] at H
     have c6b0 : decide (a0_2 ≤ 2147483648) = true := decide_eq_true c6
     clear c6
     obtain rfl := Option.some.inj H
     go_enter Tryz.func11, Tryz.ntmps11
     go_wp2_with (first | ((with_reducible refine gate_dst (N := 1) rfl ?_); refine box_event ?hg (N := 1) ?hd (cs := #[.string a0_0, .int .i64 a0_1, .int .i64 a0_2, .int .i64 a0_3, .bool a0_4, .bool a0_5, .slice A0_6 l0_6.length c0_6]) (t := 24) ?hr ?_; (case hd | hg => rfl); (case hr => exact S1_); intro gb269 hg w7 hbox hb; have BK269 := Aside0.mk (hbox); have GW269 := Aside0.mk ((Z1_ : w.heap.size ≤ gb269)); have GE269 := Aside0.mk ((Z1_ : w.heap.size ≤ gb269)); replace HO0_6 := Aside0.mk (Kd.V_below (Kd.V_elderB (by (with_reducible repeat (first | apply Kd.V_alloc | apply Kd.V_drewN | apply Kd.V_drew)); exact HO0_6.out) gb269 (Nat.le_of_eq hg.symm)) hb); replace HB := y1_ hb; clear hb hbox hg; obtain ⟨z8_0, z8_1, z8_2, z8_3, z8_4, z8_5, z8_6, y8_0, y8_1, y8_2, y8_3, y8_4, y8_5, y8_6⟩ := cz7_ BK269.out) | ((with_reducible refine gate_dst (N := 4) rfl ?_); refine Kd.N_lit k24 _ 24 ?hg (N' := 4) ?hd (xs := ([(⟨a0_0, a0_1, a0_2, a0_3, a0_4, a0_5, l0_6⟩ : S24)] : List (S24))) (inner := [.string a0_0, .int .i64 a0_1, .int .i64 a0_2, .int .i64 a0_3, .bool a0_4, .bool a0_5, .slice A0_6 l0_6.length c0_6]) (ok := (fun k_ => (P0_6_ k_ ∨ w.heap.size ≤ k_) ∧ k_ ≠ gb269)) (okp := (fun k_ => (P0_6_ k_ ∨ w.heap.size ≤ k_) ∧ k_ ≠ gb269)) ?hr ?hp (fun _ hk => hk) ((show ∀ k_, w7.heap.size ≤ k_ → (fun k_ => (P0_6_ k_ ∨ w.heap.size ≤ k_) ∧ k_ ≠ gb269) k_ from fun k_ hk => ⟨(.inr (Nat.le_trans (below_size W2_) hk)), Kd.freshB (g := gb269) (o := .cells #[.string a0_0, .int .i64 a0_1, .int .i64 a0_2, .int .i64 a0_3, .bool a0_4, .bool a0_5, .slice A0_6 l0_6.length c0_6] 24 (0, 0)) (B1_ BK269.out) k_ hk⟩) _ (Nat.le_refl _)) (Below.refl _ _) (Nat.le_refl _) (by simp) ?_; (case hd | hg => rfl); (case hr => exact S1_); (case hp => exact (Reps.c7 (show Kd.FK k24 _ _ (⟨a0_0, a0_1, a0_2, a0_3, a0_4, a0_5, l0_6⟩ : S24) [.string a0_0, .int .i64 a0_1, .int .i64 a0_2, .int .i64 a0_3, .bool a0_4, .bool a0_5, .slice A0_6 l0_6.length c0_6] from (k24_mkF _ _ (⟨a0_0, a0_1, a0_2, a0_3, a0_4, a0_5, l0_6⟩ : S24) (Kd.V_reads' (Kd.V_mono (ok' := (fun k_ => (P0_6_ k_ ∨ w.heap.size ≤ k_) ∧ k_ ≠ gb269)) (HO0_6.out) (fun k_ hk => ⟨hk.1, hk.2⟩))).2.1 (Kd.V_F (Kd.V_mono (ok' := (fun k_ => (P0_6_ k_ ∨ w.heap.size ≤ k_) ∧ k_ ≠ gb269)) (HO0_6.out) (fun k_ hk => ⟨hk.1, hk.2⟩))))) (Reps.none _ _))); intro v271 w9 ho10 hb hg_ hnew_; clear hg_ hnew_; (first | rw [← Ny270.out] at ho10 | (simp only [Int.reduceToNat] at ho10; rw [← Ny270.out] at ho10)); replace HO0_6 := Aside0.mk (Kd.V_elder' (by (with_reducible repeat (first | apply Kd.V_alloc | apply Kd.V_drewN | apply Kd.V_drew)); exact HO0_6.out) (Kd.N_base ho10) hb); have HO272 := Aside0.mk (Kd.N_lower ho10 (below_size W2_)); replace BK269 := yB_ BK269 hb; replace HB := y2_ hb; clear hb ho10; obtain ⟨Ao11, co11, eo11⟩ := Kd.N_slice HO272.out; subst eo11) | ((with_reducible refine gate_callee (f := 26) rfl ?_); refine goesL_ (some 6) rfl rfl Tryz.func26 (by kernel_rfl) rfl #[.agg #[.slice Ao11 y270.length co11]] rfl T1_ ?_; (with_reducible refine (pantrymade_SmallSites.calls k _ _ y270 true _ ?side1 ?side2 A2.out).mono ?_); (case side1 => exact C1_ ((Kd.N_reads' HO272.out).2.2)); (case side2 => exact (Kd.N_reads' HO272.out).2.1); rintro e w12 ⟨rfl, hb⟩; refine ⟨_, rfl, ?_⟩; replace HO0_6 := Aside0.mk (Kd.V_below (by (with_reducible repeat (first | apply Kd.V_alloc | apply Kd.V_drewN | apply Kd.V_drew)); exact HO0_6.out) hb); replace HO272 := Aside0.mk (Kd.N_below (by (with_reducible repeat (first | apply Kd.N_alloc | apply Kd.N_drewN | apply Kd.N_drew)); exact HO272.out) hb); replace BK269 := yB_ BK269 hb; replace HB := y2_ hb; (try clear hb); obtain ⟨z13_0, z13_1, z13_2, z13_3, z13_4, z13_5, z13_6, y13_0, y13_1, y13_2, y13_3, y13_4, y13_5, y13_6⟩ := cz7_ BK269.out))
     go_ret
     exact ⟨E1_, W2_⟩
    ·
     rw [if_neg c6] at H
     have c6b0 : decide (a0_2 ≤ 2147483648) = false := decide_eq_false c6
     clear c6
     obtain rfl := Option.some.inj H
     go_enter Tryz.func11, Tryz.ntmps11
     go_wp2_with (first | ((with_reducible refine gate_dst (N := 1) rfl ?_); refine box_event ?hg (N := 1) ?hd (cs := #[.string a0_0, .int .i64 a0_1, .int .i64 a0_2, .int .i64 a0_3, .bool a0_4, .bool a0_5, .slice A0_6 l0_6.length c0_6]) (t := 24) ?hr ?_; (case hd | hg => rfl); (case hr => exact S1_); intro gb269 hg w14 hbox hb; have BK269 := Aside0.mk (hbox); have GW269 := Aside0.mk ((Z1_ : w.heap.size ≤ gb269)); have GE269 := Aside0.mk ((Z1_ : w.heap.size ≤ gb269)); replace HO0_6 := Aside0.mk (Kd.V_below (Kd.V_elderB (by (with_reducible repeat (first | apply Kd.V_alloc | apply Kd.V_drewN | apply Kd.V_drew)); exact HO0_6.out) gb269 (Nat.le_of_eq hg.symm)) hb); replace HB := y1_ hb; clear hb hbox hg; obtain ⟨z15_0, z15_1, z15_2, z15_3, z15_4, z15_5, z15_6, y15_0, y15_1, y15_2, y15_3, y15_4, y15_5, y15_6⟩ := cz7_ BK269.out) | ((with_reducible refine gate_dst (N := 4) rfl ?_); refine Kd.N_lit k24 _ 24 ?hg (N' := 4) ?hd (xs := ([(⟨a0_0, a0_1, a0_2, a0_3, a0_4, a0_5, l0_6⟩ : S24)] : List (S24))) (inner := [.string a0_0, .int .i64 a0_1, .int .i64 a0_2, .int .i64 a0_3, .bool a0_4, .bool a0_5, .slice A0_6 l0_6.length c0_6]) (ok := (fun k_ => (P0_6_ k_ ∨ w.heap.size ≤ k_) ∧ k_ ≠ gb269)) (okp := (fun k_ => (P0_6_ k_ ∨ w.heap.size ≤ k_) ∧ k_ ≠ gb269)) ?hr ?hp (fun _ hk => hk) ((show ∀ k_, w14.heap.size ≤ k_ → (fun k_ => (P0_6_ k_ ∨ w.heap.size ≤ k_) ∧ k_ ≠ gb269) k_ from fun k_ hk => ⟨(.inr (Nat.le_trans (below_size W2_) hk)), Kd.freshB (g := gb269) (o := .cells #[.string a0_0, .int .i64 a0_1, .int .i64 a0_2, .int .i64 a0_3, .bool a0_4, .bool a0_5, .slice A0_6 l0_6.length c0_6] 24 (0, 0)) (B1_ BK269.out) k_ hk⟩) _ (Nat.le_refl _)) (Below.refl _ _) (Nat.le_refl _) (by simp) ?_; (case hd | hg => rfl); (case hr => exact S1_); (case hp => exact (Reps.c7 (show Kd.FK k24 _ _ (⟨a0_0, a0_1, a0_2, a0_3, a0_4, a0_5, l0_6⟩ : S24) [.string a0_0, .int .i64 a0_1, .int .i64 a0_2, .int .i64 a0_3, .bool a0_4, .bool a0_5, .slice A0_6 l0_6.length c0_6] from (k24_mkF _ _ (⟨a0_0, a0_1, a0_2, a0_3, a0_4, a0_5, l0_6⟩ : S24) (Kd.V_reads' (Kd.V_mono (ok' := (fun k_ => (P0_6_ k_ ∨ w.heap.size ≤ k_) ∧ k_ ≠ gb269)) (HO0_6.out) (fun k_ hk => ⟨hk.1, hk.2⟩))).2.1 (Kd.V_F (Kd.V_mono (ok' := (fun k_ => (P0_6_ k_ ∨ w.heap.size ≤ k_) ∧ k_ ≠ gb269)) (HO0_6.out) (fun k_ hk => ⟨hk.1, hk.2⟩))))) (Reps.none _ _))); intro v271 w16 ho17 hb hg_ hnew_; clear hg_ hnew_; (first | rw [← Ny270.out] at ho17 | (simp only [Int.reduceToNat] at ho17; rw [← Ny270.out] at ho17)); replace HO0_6 := Aside0.mk (Kd.V_elder' (by (with_reducible repeat (first | apply Kd.V_alloc | apply Kd.V_drewN | apply Kd.V_drew)); exact HO0_6.out) (Kd.N_base ho17) hb); have HO272 := Aside0.mk (Kd.N_lower ho17 (below_size W2_)); replace BK269 := yB_ BK269 hb; replace HB := y2_ hb; clear hb ho17; obtain ⟨Ao18, co18, eo18⟩ := Kd.N_slice HO272.out; subst eo18) | ((with_reducible refine gate_callee (f := 26) rfl ?_); refine goesL_ (some 6) rfl rfl Tryz.func26 (by kernel_rfl) rfl #[.agg #[.slice Ao18 y270.length co18]] rfl T1_ ?_; (with_reducible refine (pantrymade_SmallSites.calls k _ _ y270 true _ ?side1 ?side2 A2.out).mono ?_); (case side1 => exact C1_ ((Kd.N_reads' HO272.out).2.2)); (case side2 => exact (Kd.N_reads' HO272.out).2.1); rintro e w19 ⟨rfl, hb⟩; refine ⟨_, rfl, ?_⟩; replace HO0_6 := Aside0.mk (Kd.V_below (by (with_reducible repeat (first | apply Kd.V_alloc | apply Kd.V_drewN | apply Kd.V_drew)); exact HO0_6.out) hb); replace HO272 := Aside0.mk (Kd.N_below (by (with_reducible repeat (first | apply Kd.N_alloc | apply Kd.N_drewN | apply Kd.N_drew)); exact HO272.out) hb); replace BK269 := yB_ BK269 hb; replace HB := y2_ hb; (try clear hb); obtain ⟨z20_0, z20_1, z20_2, z20_3, z20_4, z20_5, z20_6, y20_0, y20_1, y20_2, y20_3, y20_4, y20_5, y20_6⟩ := cz7_ BK269.out))
     go_ret
     exact ⟨E1_, W2_⟩
   ·
    rw [if_neg c5] at H
    have c5b0 : decide (0 ≤ a0_3) = false := decide_eq_false c5
    clear c5
    obtain rfl := Option.some.inj H
    go_enter Tryz.func11, Tryz.ntmps11
    go_wp2_with (first | ((with_reducible refine gate_dst (N := 1) rfl ?_); refine box_event ?hg (N := 1) ?hd (cs := #[.string a0_0, .int .i64 a0_1, .int .i64 a0_2, .int .i64 a0_3, .bool a0_4, .bool a0_5, .slice A0_6 l0_6.length c0_6]) (t := 24) ?hr ?_; (case hd | hg => rfl); (case hr => exact S1_); intro gb269 hg w21 hbox hb; have BK269 := Aside0.mk (hbox); have GW269 := Aside0.mk ((Z1_ : w.heap.size ≤ gb269)); have GE269 := Aside0.mk ((Z1_ : w.heap.size ≤ gb269)); replace HO0_6 := Aside0.mk (Kd.V_below (Kd.V_elderB (by (with_reducible repeat (first | apply Kd.V_alloc | apply Kd.V_drewN | apply Kd.V_drew)); exact HO0_6.out) gb269 (Nat.le_of_eq hg.symm)) hb); replace HB := y1_ hb; clear hb hbox hg; obtain ⟨z22_0, z22_1, z22_2, z22_3, z22_4, z22_5, z22_6, y22_0, y22_1, y22_2, y22_3, y22_4, y22_5, y22_6⟩ := cz7_ BK269.out) | ((with_reducible refine gate_dst (N := 4) rfl ?_); refine Kd.N_lit k24 _ 24 ?hg (N' := 4) ?hd (xs := ([(⟨a0_0, a0_1, a0_2, a0_3, a0_4, a0_5, l0_6⟩ : S24)] : List (S24))) (inner := [.string a0_0, .int .i64 a0_1, .int .i64 a0_2, .int .i64 a0_3, .bool a0_4, .bool a0_5, .slice A0_6 l0_6.length c0_6]) (ok := (fun k_ => (P0_6_ k_ ∨ w.heap.size ≤ k_) ∧ k_ ≠ gb269)) (okp := (fun k_ => (P0_6_ k_ ∨ w.heap.size ≤ k_) ∧ k_ ≠ gb269)) ?hr ?hp (fun _ hk => hk) ((show ∀ k_, w21.heap.size ≤ k_ → (fun k_ => (P0_6_ k_ ∨ w.heap.size ≤ k_) ∧ k_ ≠ gb269) k_ from fun k_ hk => ⟨(.inr (Nat.le_trans (below_size W2_) hk)), Kd.freshB (g := gb269) (o := .cells #[.string a0_0, .int .i64 a0_1, .int .i64 a0_2, .int .i64 a0_3, .bool a0_4, .bool a0_5, .slice A0_6 l0_6.length c0_6] 24 (0, 0)) (B1_ BK269.out) k_ hk⟩) _ (Nat.le_refl _)) (Below.refl _ _) (Nat.le_refl _) (by simp) ?_; (case hd | hg => rfl); (case hr => exact S1_); (case hp => exact (Reps.c7 (show Kd.FK k24 _ _ (⟨a0_0, a0_1, a0_2, a0_3, a0_4, a0_5, l0_6⟩ : S24) [.string a0_0, .int .i64 a0_1, .int .i64 a0_2, .int .i64 a0_3, .bool a0_4, .bool a0_5, .slice A0_6 l0_6.length c0_6] from (k24_mkF _ _ (⟨a0_0, a0_1, a0_2, a0_3, a0_4, a0_5, l0_6⟩ : S24) (Kd.V_reads' (Kd.V_mono (ok' := (fun k_ => (P0_6_ k_ ∨ w.heap.size ≤ k_) ∧ k_ ≠ gb269)) (HO0_6.out) (fun k_ hk => ⟨hk.1, hk.2⟩))).2.1 (Kd.V_F (Kd.V_mono (ok' := (fun k_ => (P0_6_ k_ ∨ w.heap.size ≤ k_) ∧ k_ ≠ gb269)) (HO0_6.out) (fun k_ hk => ⟨hk.1, hk.2⟩))))) (Reps.none _ _))); intro v271 w23 ho24 hb hg_ hnew_; clear hg_ hnew_; (first | rw [← Ny270.out] at ho24 | (simp only [Int.reduceToNat] at ho24; rw [← Ny270.out] at ho24)); replace HO0_6 := Aside0.mk (Kd.V_elder' (by (with_reducible repeat (first | apply Kd.V_alloc | apply Kd.V_drewN | apply Kd.V_drew)); exact HO0_6.out) (Kd.N_base ho24) hb); have HO272 := Aside0.mk (Kd.N_lower ho24 (below_size W2_)); replace BK269 := yB_ BK269 hb; replace HB := y2_ hb; clear hb ho24; obtain ⟨Ao25, co25, eo25⟩ := Kd.N_slice HO272.out; subst eo25) | ((with_reducible refine gate_callee (f := 26) rfl ?_); refine goesL_ (some 6) rfl rfl Tryz.func26 (by kernel_rfl) rfl #[.agg #[.slice Ao25 y270.length co25]] rfl T1_ ?_; (with_reducible refine (pantrymade_SmallSites.calls k _ _ y270 true _ ?side1 ?side2 A2.out).mono ?_); (case side1 => exact C1_ ((Kd.N_reads' HO272.out).2.2)); (case side2 => exact (Kd.N_reads' HO272.out).2.1); rintro e w26 ⟨rfl, hb⟩; refine ⟨_, rfl, ?_⟩; replace HO0_6 := Aside0.mk (Kd.V_below (by (with_reducible repeat (first | apply Kd.V_alloc | apply Kd.V_drewN | apply Kd.V_drew)); exact HO0_6.out) hb); replace HO272 := Aside0.mk (Kd.N_below (by (with_reducible repeat (first | apply Kd.N_alloc | apply Kd.N_drewN | apply Kd.N_drew)); exact HO272.out) hb); replace BK269 := yB_ BK269 hb; replace HB := y2_ hb; (try clear hb); obtain ⟨z27_0, z27_1, z27_2, z27_3, z27_4, z27_5, z27_6, y27_0, y27_1, y27_2, y27_3, y27_4, y27_5, y27_6⟩ := cz7_ BK269.out))
    go_ret
    exact ⟨E1_, W2_⟩
  ·
   rw [if_neg c4] at H
   have c4b0 : decide (0 ≤ a0_2) = false := decide_eq_false c4
   clear c4
   obtain rfl := Option.some.inj H
   go_enter Tryz.func11, Tryz.ntmps11
   go_wp2_with (first | ((with_reducible refine gate_dst (N := 1) rfl ?_); refine box_event ?hg (N := 1) ?hd (cs := #[.string a0_0, .int .i64 a0_1, .int .i64 a0_2, .int .i64 a0_3, .bool a0_4, .bool a0_5, .slice A0_6 l0_6.length c0_6]) (t := 24) ?hr ?_; (case hd | hg => rfl); (case hr => exact S1_); intro gb269 hg w28 hbox hb; have BK269 := Aside0.mk (hbox); have GW269 := Aside0.mk ((Z1_ : w.heap.size ≤ gb269)); have GE269 := Aside0.mk ((Z1_ : w.heap.size ≤ gb269)); replace HO0_6 := Aside0.mk (Kd.V_below (Kd.V_elderB (by (with_reducible repeat (first | apply Kd.V_alloc | apply Kd.V_drewN | apply Kd.V_drew)); exact HO0_6.out) gb269 (Nat.le_of_eq hg.symm)) hb); replace HB := y1_ hb; clear hb hbox hg; obtain ⟨z29_0, z29_1, z29_2, z29_3, z29_4, z29_5, z29_6, y29_0, y29_1, y29_2, y29_3, y29_4, y29_5, y29_6⟩ := cz7_ BK269.out) | ((with_reducible refine gate_dst (N := 4) rfl ?_); refine Kd.N_lit k24 _ 24 ?hg (N' := 4) ?hd (xs := ([(⟨a0_0, a0_1, a0_2, a0_3, a0_4, a0_5, l0_6⟩ : S24)] : List (S24))) (inner := [.string a0_0, .int .i64 a0_1, .int .i64 a0_2, .int .i64 a0_3, .bool a0_4, .bool a0_5, .slice A0_6 l0_6.length c0_6]) (ok := (fun k_ => (P0_6_ k_ ∨ w.heap.size ≤ k_) ∧ k_ ≠ gb269)) (okp := (fun k_ => (P0_6_ k_ ∨ w.heap.size ≤ k_) ∧ k_ ≠ gb269)) ?hr ?hp (fun _ hk => hk) ((show ∀ k_, w28.heap.size ≤ k_ → (fun k_ => (P0_6_ k_ ∨ w.heap.size ≤ k_) ∧ k_ ≠ gb269) k_ from fun k_ hk => ⟨(.inr (Nat.le_trans (below_size W2_) hk)), Kd.freshB (g := gb269) (o := .cells #[.string a0_0, .int .i64 a0_1, .int .i64 a0_2, .int .i64 a0_3, .bool a0_4, .bool a0_5, .slice A0_6 l0_6.length c0_6] 24 (0, 0)) (B1_ BK269.out) k_ hk⟩) _ (Nat.le_refl _)) (Below.refl _ _) (Nat.le_refl _) (by simp) ?_; (case hd | hg => rfl); (case hr => exact S1_); (case hp => exact (Reps.c7 (show Kd.FK k24 _ _ (⟨a0_0, a0_1, a0_2, a0_3, a0_4, a0_5, l0_6⟩ : S24) [.string a0_0, .int .i64 a0_1, .int .i64 a0_2, .int .i64 a0_3, .bool a0_4, .bool a0_5, .slice A0_6 l0_6.length c0_6] from (k24_mkF _ _ (⟨a0_0, a0_1, a0_2, a0_3, a0_4, a0_5, l0_6⟩ : S24) (Kd.V_reads' (Kd.V_mono (ok' := (fun k_ => (P0_6_ k_ ∨ w.heap.size ≤ k_) ∧ k_ ≠ gb269)) (HO0_6.out) (fun k_ hk => ⟨hk.1, hk.2⟩))).2.1 (Kd.V_F (Kd.V_mono (ok' := (fun k_ => (P0_6_ k_ ∨ w.heap.size ≤ k_) ∧ k_ ≠ gb269)) (HO0_6.out) (fun k_ hk => ⟨hk.1, hk.2⟩))))) (Reps.none _ _))); intro v271 w30 ho31 hb hg_ hnew_; clear hg_ hnew_; (first | rw [← Ny270.out] at ho31 | (simp only [Int.reduceToNat] at ho31; rw [← Ny270.out] at ho31)); replace HO0_6 := Aside0.mk (Kd.V_elder' (by (with_reducible repeat (first | apply Kd.V_alloc | apply Kd.V_drewN | apply Kd.V_drew)); exact HO0_6.out) (Kd.N_base ho31) hb); have HO272 := Aside0.mk (Kd.N_lower ho31 (below_size W2_)); replace BK269 := yB_ BK269 hb; replace HB := y2_ hb; clear hb ho31; obtain ⟨Ao32, co32, eo32⟩ := Kd.N_slice HO272.out; subst eo32) | ((with_reducible refine gate_callee (f := 26) rfl ?_); refine goesL_ (some 6) rfl rfl Tryz.func26 (by kernel_rfl) rfl #[.agg #[.slice Ao32 y270.length co32]] rfl T1_ ?_; (with_reducible refine (pantrymade_SmallSites.calls k _ _ y270 true _ ?side1 ?side2 A2.out).mono ?_); (case side1 => exact C1_ ((Kd.N_reads' HO272.out).2.2)); (case side2 => exact (Kd.N_reads' HO272.out).2.1); rintro e w33 ⟨rfl, hb⟩; refine ⟨_, rfl, ?_⟩; replace HO0_6 := Aside0.mk (Kd.V_below (by (with_reducible repeat (first | apply Kd.V_alloc | apply Kd.V_drewN | apply Kd.V_drew)); exact HO0_6.out) hb); replace HO272 := Aside0.mk (Kd.N_below (by (with_reducible repeat (first | apply Kd.N_alloc | apply Kd.N_drewN | apply Kd.N_drew)); exact HO272.out) hb); replace BK269 := yB_ BK269 hb; replace HB := y2_ hb; (try clear hb); obtain ⟨z34_0, z34_1, z34_2, z34_3, z34_4, z34_5, z34_6, y34_0, y34_1, y34_2, y34_3, y34_4, y34_5, y34_6⟩ := cz7_ BK269.out))
   go_ret
   exact ⟨E1_, W2_⟩
 ·
  replace c3 := Bool.eq_false_iff.mpr c3
  subst c3
  rw [if_neg (show ¬ (false = true) by decide)] at H
  obtain rfl := Option.some.inj H
  go_enter Tryz.func11, Tryz.ntmps11
  go_wp2_with (first | ((with_reducible refine gate_dst (N := 1) rfl ?_); refine box_event ?hg (N := 1) ?hd (cs := #[.string a0_0, .int .i64 a0_1, .int .i64 a0_2, .int .i64 a0_3, .bool a0_4, .bool a0_5, .slice A0_6 l0_6.length c0_6]) (t := 24) ?hr ?_; (case hd | hg => rfl); (case hr => exact S1_); intro gb269 hg w35 hbox hb; have BK269 := Aside0.mk (hbox); have GW269 := Aside0.mk ((Z1_ : w.heap.size ≤ gb269)); have GE269 := Aside0.mk ((Z1_ : w.heap.size ≤ gb269)); replace HO0_6 := Aside0.mk (Kd.V_below (Kd.V_elderB (by (with_reducible repeat (first | apply Kd.V_alloc | apply Kd.V_drewN | apply Kd.V_drew)); exact HO0_6.out) gb269 (Nat.le_of_eq hg.symm)) hb); replace HB := y1_ hb; clear hb hbox hg; obtain ⟨z36_0, z36_1, z36_2, z36_3, z36_4, z36_5, z36_6, y36_0, y36_1, y36_2, y36_3, y36_4, y36_5, y36_6⟩ := cz7_ BK269.out) | ((with_reducible refine gate_dst (N := 4) rfl ?_); refine Kd.N_lit k24 _ 24 ?hg (N' := 4) ?hd (xs := ([(⟨a0_0, a0_1, a0_2, a0_3, a0_4, a0_5, l0_6⟩ : S24)] : List (S24))) (inner := [.string a0_0, .int .i64 a0_1, .int .i64 a0_2, .int .i64 a0_3, .bool a0_4, .bool a0_5, .slice A0_6 l0_6.length c0_6]) (ok := (fun k_ => (P0_6_ k_ ∨ w.heap.size ≤ k_) ∧ k_ ≠ gb269)) (okp := (fun k_ => (P0_6_ k_ ∨ w.heap.size ≤ k_) ∧ k_ ≠ gb269)) ?hr ?hp (fun _ hk => hk) ((show ∀ k_, w35.heap.size ≤ k_ → (fun k_ => (P0_6_ k_ ∨ w.heap.size ≤ k_) ∧ k_ ≠ gb269) k_ from fun k_ hk => ⟨(.inr (Nat.le_trans (below_size W2_) hk)), Kd.freshB (g := gb269) (o := .cells #[.string a0_0, .int .i64 a0_1, .int .i64 a0_2, .int .i64 a0_3, .bool a0_4, .bool a0_5, .slice A0_6 l0_6.length c0_6] 24 (0, 0)) (B1_ BK269.out) k_ hk⟩) _ (Nat.le_refl _)) (Below.refl _ _) (Nat.le_refl _) (by simp) ?_; (case hd | hg => rfl); (case hr => exact S1_); (case hp => exact (Reps.c7 (show Kd.FK k24 _ _ (⟨a0_0, a0_1, a0_2, a0_3, a0_4, a0_5, l0_6⟩ : S24) [.string a0_0, .int .i64 a0_1, .int .i64 a0_2, .int .i64 a0_3, .bool a0_4, .bool a0_5, .slice A0_6 l0_6.length c0_6] from (k24_mkF _ _ (⟨a0_0, a0_1, a0_2, a0_3, a0_4, a0_5, l0_6⟩ : S24) (Kd.V_reads' (Kd.V_mono (ok' := (fun k_ => (P0_6_ k_ ∨ w.heap.size ≤ k_) ∧ k_ ≠ gb269)) (HO0_6.out) (fun k_ hk => ⟨hk.1, hk.2⟩))).2.1 (Kd.V_F (Kd.V_mono (ok' := (fun k_ => (P0_6_ k_ ∨ w.heap.size ≤ k_) ∧ k_ ≠ gb269)) (HO0_6.out) (fun k_ hk => ⟨hk.1, hk.2⟩))))) (Reps.none _ _))); intro v271 w37 ho38 hb hg_ hnew_; clear hg_ hnew_; (first | rw [← Ny270.out] at ho38 | (simp only [Int.reduceToNat] at ho38; rw [← Ny270.out] at ho38)); replace HO0_6 := Aside0.mk (Kd.V_elder' (by (with_reducible repeat (first | apply Kd.V_alloc | apply Kd.V_drewN | apply Kd.V_drew)); exact HO0_6.out) (Kd.N_base ho38) hb); have HO272 := Aside0.mk (Kd.N_lower ho38 (below_size W2_)); replace BK269 := yB_ BK269 hb; replace HB := y2_ hb; clear hb ho38; obtain ⟨Ao39, co39, eo39⟩ := Kd.N_slice HO272.out; subst eo39) | ((with_reducible refine gate_callee (f := 26) rfl ?_); refine goesL_ (some 6) rfl rfl Tryz.func26 (by kernel_rfl) rfl #[.agg #[.slice Ao39 y270.length co39]] rfl T1_ ?_; (with_reducible refine (pantrymade_SmallSites.calls k _ _ y270 false _ ?side1 ?side2 A2.out).mono ?_); (case side1 => exact C1_ ((Kd.N_reads' HO272.out).2.2)); (case side2 => exact (Kd.N_reads' HO272.out).2.1); rintro e w40 ⟨rfl, hb⟩; refine ⟨_, rfl, ?_⟩; replace HO0_6 := Aside0.mk (Kd.V_below (by (with_reducible repeat (first | apply Kd.V_alloc | apply Kd.V_drewN | apply Kd.V_drew)); exact HO0_6.out) hb); replace HO272 := Aside0.mk (Kd.N_below (by (with_reducible repeat (first | apply Kd.N_alloc | apply Kd.N_drewN | apply Kd.N_drew)); exact HO272.out) hb); replace BK269 := yB_ BK269 hb; replace HB := y2_ hb; (try clear hb)))
  go_ret
  exact ⟨E1_, W2_⟩

/-! ### pantrylaw12_small: function 12 -/
def pantrylaw12_small.l0 : Nat → List (S46) → List (S46) → Int → Int → Option (Bool)
 | 0, _, _, _, _ => none
 | k + 1, x0, x5, x6, x7 => if x7 < x6 then (if 0 ≤ x7 then (if x7 < (x5.length : Int) then (if (((rd_T46 x5 x7).f0).size : Int) > 100 then (some false) else (if (((rd_T46 x5 x7).f1).size : Int) > 300 then (some false) else (pantrylaw12_small.l0 k x0 x5 x6 (wrap64 (x7 + 1))))) else (none)) else (none)) else (some (decide ((x0.length : Int) ≤ 30)))
def pantrylaw12_small.f (k : Nat) (l0 : List (S46)) : Option (Bool) := pantrylaw12_small.l0 k l0 l0 (l0.length : Int) 0
theorem pantrylaw12_small.mono_l : ∀ k, (∀ y0 y1 y2 y3, LeO (pantrylaw12_small.l0 k y0 y1 y2 y3) (pantrylaw12_small.l0 (k + 1) y0 y1 y2 y3))
 | 0 => fun _ _ _ _ r h => by simp [pantrylaw12_small.l0] at h
 | k + 1 => by
  have ih0 := pantrylaw12_small.mono_l k
  ·
   intro y0 y1 y2 y3
   unfold pantrylaw12_small.l0
   repeat' (with_reducible first | exact ih0 _ _ _ _ | exact lR_ | refine LeO.ite ?_ ?_ | refine LeO.bind ?_ (fun _ => ?_))
theorem pantrylaw12_small.mono : ∀ a0 k, LeO (pantrylaw12_small.f k a0) (pantrylaw12_small.f (k + 1) a0) := by
 intro a0 k
 have ih0 := pantrylaw12_small.mono_l k
 unfold pantrylaw12_small.f
 repeat' (with_reducible first | exact ih0 _ _ _ _ | exact lR_ | refine LeO.ite ?_ ?_ | refine LeO.bind ?_ (fun _ => ?_))
set_option maxHeartbeats 8000000 in
set_option maxRecDepth 100000 in
theorem pantrylaw12_small.calls (k : Nat) (A0 : Option Addr) (c0 : Nat) (l0 : List (S46)) (r : Bool) (w : World) (hr0 : Kd.C k46 w A0 l0.length l0) (hc0 : l0.length ≤ c0) (h : pantrylaw12_small.f k l0 = some r) :
  Calls Tryz.prog 12 #[.slice A0 l0.length c0] w fun e w' => e = .returned (.bool r) ∧ Below w.heap.size w w' := by
 have hu46 := Tryz.underlying46
 have HR0 := Aside0.mk hr0
 have HC0 := Aside0.mk hc0
 clear hr0 hc0
 have HB := Aside0.mk (Below.refl w.heap.size w)
 have H : (pantrylaw12_small.l0 k l0 l0 (l0.length : Int) 0) = some r := h
 clear h
 have H' := Aside0.mk H
 clear H
 go_enter Tryz.func12, Tryz.ntmps12
 go_wp2
 go_loopg [7] k (fun kq v7 w' => ∃ (x7_1 : Int), v7 = .int .i64 x7_1 ∧ Aside0 (pantrylaw12_small.l0 kq l0 l0 (l0.length : Int) x7_1 = some r) ∧ Aside0 (kq ≤ k) ∧ Aside0 (Below w.heap.size w w'))
 case atStart => exact ⟨(0), E3_, H', ⟨Nat.le_refl _⟩, ⟨W1_⟩⟩
 case round =>
  clear H'
  obtain ⟨x7_1, rfl, HA, HK1, HB⟩ := hrel
  cases gk with
  | zero => exact absurd HA.out (by simp [pantrylaw12_small.l0])
  | succ k1 =>
   have H := HA.out
   clear HA
   simp only [pantrylaw12_small.l0] at H
   by_cases c2 : x7_1 < (l0.length : Int)
   ·
    rw [if_pos c2] at H
    have c2b0 : decide (x7_1 < (l0.length : Int)) = true := decide_eq_true c2
    clear c2
    by_cases c3 : 0 ≤ x7_1
    ·
     rw [if_pos c3] at H
     have c3b0 : decide (0 ≤ x7_1) = true := decide_eq_true c3
     clear c3
     by_cases c4 : x7_1 < (l0.length : Int)
     ·
      rw [if_pos c4] at H
      have c4b0 : decide (x7_1 < (l0.length : Int)) = true := decide_eq_true c4
      clear c4
      by_cases c5 : (((rd_T46 l0 x7_1).f0).size : Int) > 100
      ·
       rw [if_pos c5] at H
       have c5b0 : decide (100 < (((rd_T46 l0 x7_1).f0).size : Int)) = true := decide_eq_true c5
       have c5b1 : decide (100 < ((rd_T46 l0 x7_1).f0).size) = true := decide_eq_true (by omega)
       clear c5
       obtain rfl := Option.some.inj H
       have p274 : 0 ≤ (x7_1 : Int) := oA_
       have q274 : x7_1 < (l0.length : Int) := oA_
       obtain ⟨ad274, e274, hx274_0, hx274_1⟩ := at_T46 HR0.out x7_1 p274 q274
       cases e274
       replace hx274_0 := (HB.out.cell (World.block_lt_of_cell? w _ hx274_0)).trans hx274_0
       replace hx274_1 := (HB.out.cell (World.block_lt_of_cell? w _ hx274_1)).trans hx274_1
       replace p274 := eq_true p274
       replace q274 := eq_true q274
       go_wp2_with (first | ((with_reducible refine gate_dst (N := 4) rfl ?_); (try (refine gate_guard (by rfl) ?_; dsimp only)); refine box_event ?hg (N := 4) ?hd (cs := #[.string (⟨#[]⟩ : ByteArray), .string (⟨#[]⟩ : ByteArray)]) (t := 46) ?hr ?_; (case hd | hg => rfl); (case hr => exact S1_); intro gb275 hg w6 hbox hb; have BK275 := Aside0.mk (hbox); have GW275 := Aside0.mk ((Z1_ : w.heap.size ≤ gb275)); have GE275 := Aside0.mk ((Z1_ : w.heap.size ≤ gb275)); replace HB := y1_ hb; clear hb hbox hg; obtain ⟨z7_0, z7_1, y7_0, y7_1⟩ := cz2_ BK275.out))
       go_ret
       exact ⟨E1_, W2_⟩
      ·
       rw [if_neg c5] at H
       have c5b0 : decide (100 < (((rd_T46 l0 x7_1).f0).size : Int)) = false := decide_eq_false c5
       have c5b1 : decide (100 < ((rd_T46 l0 x7_1).f0).size) = false := decide_eq_false (by omega)
       clear c5
       by_cases c8 : (((rd_T46 l0 x7_1).f1).size : Int) > 300
       ·
        rw [if_pos c8] at H
        have c8b0 : decide (300 < (((rd_T46 l0 x7_1).f1).size : Int)) = true := decide_eq_true c8
        have c8b1 : decide (300 < ((rd_T46 l0 x7_1).f1).size) = true := decide_eq_true (by omega)
        clear c8
        obtain rfl := Option.some.inj H
        have p274 : 0 ≤ (x7_1 : Int) := oA_
        have q274 : x7_1 < (l0.length : Int) := oA_
        obtain ⟨ad274, e274, hx274_0, hx274_1⟩ := at_T46 HR0.out x7_1 p274 q274
        cases e274
        replace hx274_0 := (HB.out.cell (World.block_lt_of_cell? w _ hx274_0)).trans hx274_0
        replace hx274_1 := (HB.out.cell (World.block_lt_of_cell? w _ hx274_1)).trans hx274_1
        replace p274 := eq_true p274
        replace q274 := eq_true q274
        go_wp2_with (first | ((with_reducible refine gate_dst (N := 4) rfl ?_); (try (refine gate_guard (by rfl) ?_; dsimp only)); refine box_event ?hg (N := 4) ?hd (cs := #[.string (⟨#[]⟩ : ByteArray), .string (⟨#[]⟩ : ByteArray)]) (t := 46) ?hr ?_; (case hd | hg => rfl); (case hr => exact S1_); intro gb275 hg w9 hbox hb; have BK275 := Aside0.mk (hbox); have GW275 := Aside0.mk ((Z1_ : w.heap.size ≤ gb275)); have GE275 := Aside0.mk ((Z1_ : w.heap.size ≤ gb275)); replace HB := y1_ hb; clear hb hbox hg; obtain ⟨z10_0, z10_1, y10_0, y10_1⟩ := cz2_ BK275.out))
        go_ret
        exact ⟨E1_, W2_⟩
       ·
        rw [if_neg c8] at H
        have c8b0 : decide (300 < (((rd_T46 l0 x7_1).f1).size : Int)) = false := decide_eq_false c8
        have c8b1 : decide (300 < ((rd_T46 l0 x7_1).f1).size) = false := decide_eq_false (by omega)
        clear c8
        have H' := Aside0.mk H
        clear H
        have p274 : 0 ≤ (x7_1 : Int) := oA_
        have q274 : x7_1 < (l0.length : Int) := oA_
        obtain ⟨ad274, e274, hx274_0, hx274_1⟩ := at_T46 HR0.out x7_1 p274 q274
        cases e274
        replace hx274_0 := (HB.out.cell (World.block_lt_of_cell? w _ hx274_0)).trans hx274_0
        replace hx274_1 := (HB.out.cell (World.block_lt_of_cell? w _ hx274_1)).trans hx274_1
        replace p274 := eq_true p274
        replace q274 := eq_true q274
        go_wp2_with (first | ((with_reducible refine gate_dst (N := 4) rfl ?_); (try (refine gate_guard (by rfl) ?_; dsimp only)); refine box_event ?hg (N := 4) ?hd (cs := #[.string (⟨#[]⟩ : ByteArray), .string (⟨#[]⟩ : ByteArray)]) (t := 46) ?hr ?_; (case hd | hg => rfl); (case hr => exact S1_); intro gb275 hg w11 hbox hb; have BK275 := Aside0.mk (hbox); have GW275 := Aside0.mk ((Z1_ : w.heap.size ≤ gb275)); have GE275 := Aside0.mk ((Z1_ : w.heap.size ≤ gb275)); replace HB := y1_ hb; clear hb hbox hg; obtain ⟨z12_0, z12_1, y12_0, y12_1⟩ := cz2_ BK275.out))
        go_roundg k1
        case measure => have := HK1.out; omega
        case rel => exact ⟨(wrap64 (x7_1 + 1)), E3_, H', ⟨by have := HK1.out; omega⟩, ⟨W2_⟩⟩
     ·
      rw [if_neg c4] at H
      exact absurd H (by simp)
    ·
     rw [if_neg c3] at H
     exact absurd H (by simp)
   ·
    rw [if_neg c2] at H
    have c2b0 : decide (x7_1 < (l0.length : Int)) = false := decide_eq_false c2
    clear c2
    obtain rfl := Option.some.inj H
    go_wp2
    go_ret
    exact ⟨E1_, W1_⟩

/-! ### pantryref01_Lower: function 61 -/
def pantryref01_Lower.l0 : Nat → ByteArray → List Int → Int → Option (ByteArray)
 | 0, _, _, _ => none
 | k + 1, x0, x3, x4 => if x4 < (x0.size : Int) then (if 0 ≤ x4 then (if (bt x0 x4) ≥ 65 then (if (bt x0 x4) ≤ 90 then (if x3.length < 140737488355328 then (pantryref01_Lower.l0 k x0 (x3 ++ [((bt x0 x4) + 32) % 256]) (wrap64 (x4 + 1))) else (none)) else (if x3.length < 140737488355328 then (pantryref01_Lower.l0 k x0 (x3 ++ [bt x0 x4]) (wrap64 (x4 + 1))) else (none))) else (if x3.length < 140737488355328 then (pantryref01_Lower.l0 k x0 (x3 ++ [bt x0 x4]) (wrap64 (x4 + 1))) else (none))) else (none)) else (some (strOfNums x3))
def pantryref01_Lower.f (k : Nat) (a0 : ByteArray) : Option (ByteArray) := pantryref01_Lower.l0 k a0 ([] : List Int) 0
theorem pantryref01_Lower.mono_l : ∀ k, (∀ y0 y1 y2, LeO (pantryref01_Lower.l0 k y0 y1 y2) (pantryref01_Lower.l0 (k + 1) y0 y1 y2))
 | 0 => fun _ _ _ r h => by simp [pantryref01_Lower.l0] at h
 | k + 1 => by
  have ih0 := pantryref01_Lower.mono_l k
  ·
   intro y0 y1 y2
   unfold pantryref01_Lower.l0
   repeat' (with_reducible first | exact ih0 _ _ _ | exact lR_ | refine LeO.ite ?_ ?_ | refine LeO.bind ?_ (fun _ => ?_))
theorem pantryref01_Lower.mono : ∀ a0 k, LeO (pantryref01_Lower.f k a0) (pantryref01_Lower.f (k + 1) a0) := by
 intro a0 k
 have ih0 := pantryref01_Lower.mono_l k
 unfold pantryref01_Lower.f
 repeat' (with_reducible first | exact ih0 _ _ _ | exact lR_ | refine LeO.ite ?_ ?_ | refine LeO.bind ?_ (fun _ => ?_))
set_option maxHeartbeats 8000000 in
set_option maxRecDepth 100000 in
theorem pantryref01_Lower.calls (k : Nat) (a0 : ByteArray) (r : ByteArray) (w : World) (h : pantryref01_Lower.f k a0 = some r) :
  Calls Tryz.prog 61 #[.string a0] w fun e w' => e = .returned (.string r) ∧ Below w.heap.size w w' := by
 have HB := Aside0.mk (Below.refl w.heap.size w)
 have H : (pantryref01_Lower.l0 k a0 ([] : List Int) 0) = some r := h
 clear h
 have H' := Aside0.mk H
 clear H
 go_enter Tryz.func61, Tryz.ntmps61
 go_wp2
 go_loopg [3, 4] k (fun kq v3 v4 w' => ∃ (x3_1 : List Int) (x4_1 : Int), v4 = .int .i64 x4_1 ∧ Aside0 (pantryref01_Lower.l0 kq a0 x3_1 x4_1 = some r) ∧ Aside0 (kq ≤ k) ∧ Aside0 (Kd.R (Kd.int .u8) 5 w' w.heap.size (fun _ => True) v3 x3_1) ∧ Aside0 (Below w.heap.size w w'))
 case atStart => exact ⟨(([] : List Int)), (0), E3_, H', ⟨Nat.le_refl _⟩, ⟨by first | exact Kd.R_nil _ _ _ _ _ | exact Kd.N_nil _ _ _ _ _ | exact Kd.V_nil _ _ _ _ _ | exact Kd.Q_nil _ _ _ _ _ | exact Kd.S_nil _ _ _ _ _⟩, ⟨W1_⟩⟩
 case round =>
  clear H'
  obtain ⟨x3_1, x4_1, rfl, HA, HK1, HO_3, HB⟩ := hrel
  cases gk with
  | zero => exact absurd HA.out (by simp [pantryref01_Lower.l0])
  | succ k1 =>
   have H := HA.out
   clear HA
   simp only [pantryref01_Lower.l0] at H
   by_cases c2 : x4_1 < (a0.size : Int)
   ·
    rw [if_pos c2] at H
    have c2b0 : decide (x4_1 < (a0.size : Int)) = true := decide_eq_true c2
    clear c2
    by_cases c3 : 0 ≤ x4_1
    ·
     rw [if_pos c3] at H
     have c3b0 : decide (0 ≤ x4_1) = true := decide_eq_true c3
     clear c3
     by_cases c5 : (bt a0 x4_1) ≥ 65
     ·
      rw [if_pos c5] at H
      have c5b0 : decide (65 ≤ (bt a0 x4_1)) = true := decide_eq_true c5
      clear c5
      by_cases c6 : (bt a0 x4_1) ≤ 90
      ·
       rw [if_pos c6] at H
       have c6b0 : decide ((bt a0 x4_1) ≤ 90) = true := decide_eq_true c6
       clear c6
       by_cases c7 : x3_1.length < 140737488355328
       ·
        rw [if_pos c7] at H
        have LMc7 := Aside0.mk c7
        clear c7
        obtain ⟨y276, hy276⟩ : ∃ y_ : List Int, y_ = (x3_1 ++ [((bt a0 x4_1) + 32) % 256]) := ⟨_, rfl⟩
        replace H : (pantryref01_Lower.l0 k1 a0 y276 (wrap64 (x4_1 + 1))) = some r := by first | (rw [hy276]; with_reducible exact H) | (have H2_ := (Option.bind_some _ _).symm.trans H; rw [hy276]; with_reducible exact H2_) | (have H2_ := (Option.bind_some _ _).symm.trans H; with_reducible exact H2_) | with_reducible exact H | (rw [hy276]; exact H) | exact H
        have Ny276 := Aside0.mk hy276
        clear hy276
        have H' := Aside0.mk H
        clear H
        have p4 : 0 ≤ (x4_1 : Int) := oA_
        have q4 : x4_1 < (a0.size : Int) := oA_
        have hx4 := bt_at a0 x4_1
        replace p4 := eq_true p4
        replace q4 := eq_true q4
        go_wp2_with (first | ((with_reducible refine gate_builtin (b := .append) (xs := #[.tmp 23, .tmp 25]) rfl ?_); at_builtin; refine Kd.R_append (Kd.int .u8) (w0 := w) w.heap.size rfl (.tmp 23) (.tmp 25) 80 5 (.int .u8 0) 1 rfl Tryz.underlying80 info5 rfl (by decide) (by omega) u3 x3_1 (((bt a0 x4_1) + 32) % 256) [.int .u8 (((bt a0 x4_1) + 32) % 256)] (fun _ => True) (fun _ => False) rfl rfl ?aP (fun _ hk => hk.elim) ?aF ?aO ?aB ?aS ?aL ?_; (case aP => exact rfl); (case aB => exact W1_); (case aF => exact (fun _ _ => trivial)); (case aO => exact (R1_ HO_3.out)); (case aS => exact (below_size W1_)); (case aL => have := LMc7.out; omega); intro v277 w8 ho hb hg hat; rw [← Ny276.out] at ho; have n0_ := Aside0.mk (hb); have n1_ := Aside0.mk (ho); clear HB; clear HO_3; have HB := n0_; have HO278 := n1_; clear n0_ n1_; clear ho hb hg hat))
        go_roundg k1
        case measure => have := HK1.out; omega
        case rel => exact ⟨(y276), (wrap64 (x4_1 + 1)), E3_, H', ⟨by have := HK1.out; omega⟩, ⟨R1_ HO278.out⟩, ⟨W1_⟩⟩
       ·
        rw [if_neg c7] at H
        exact absurd H (by simp)
      ·
       rw [if_neg c6] at H
       have c6b0 : decide ((bt a0 x4_1) ≤ 90) = false := decide_eq_false c6
       clear c6
       by_cases c9 : x3_1.length < 140737488355328
       ·
        rw [if_pos c9] at H
        have LMc9 := Aside0.mk c9
        clear c9
        obtain ⟨y279, hy279⟩ : ∃ y_ : List Int, y_ = (x3_1 ++ [bt a0 x4_1]) := ⟨_, rfl⟩
        replace H : (pantryref01_Lower.l0 k1 a0 y279 (wrap64 (x4_1 + 1))) = some r := by first | (rw [hy279]; with_reducible exact H) | (have H2_ := (Option.bind_some _ _).symm.trans H; rw [hy279]; with_reducible exact H2_) | (have H2_ := (Option.bind_some _ _).symm.trans H; with_reducible exact H2_) | with_reducible exact H | (rw [hy279]; exact H) | exact H
        have Ny279 := Aside0.mk hy279
        clear hy279
        have H' := Aside0.mk H
        clear H
        have p4 : 0 ≤ (x4_1 : Int) := oA_
        have q4 : x4_1 < (a0.size : Int) := oA_
        have hx4 := bt_at a0 x4_1
        replace p4 := eq_true p4
        replace q4 := eq_true q4
        go_wp2_with (first | ((with_reducible refine gate_builtin (b := .append) (xs := #[.tmp 23, .tmp 25]) rfl ?_); at_builtin; refine Kd.R_append (Kd.int .u8) (w0 := w) w.heap.size rfl (.tmp 23) (.tmp 25) 80 5 (.int .u8 0) 1 rfl Tryz.underlying80 info5 rfl (by decide) (by omega) u3 x3_1 (bt a0 x4_1) [.int .u8 (bt a0 x4_1)] (fun _ => True) (fun _ => False) rfl rfl ?aP (fun _ hk => hk.elim) ?aF ?aO ?aB ?aS ?aL ?_; (case aP => exact rfl); (case aB => exact W1_); (case aF => exact (fun _ _ => trivial)); (case aO => exact (R1_ HO_3.out)); (case aS => exact (below_size W1_)); (case aL => have := LMc9.out; omega); intro v280 w10 ho hb hg hat; rw [← Ny279.out] at ho; have n0_ := Aside0.mk (hb); have n1_ := Aside0.mk (ho); clear HB; clear HO_3; have HB := n0_; have HO281 := n1_; clear n0_ n1_; clear ho hb hg hat))
        go_roundg k1
        case measure => have := HK1.out; omega
        case rel => exact ⟨(y279), (wrap64 (x4_1 + 1)), E3_, H', ⟨by have := HK1.out; omega⟩, ⟨R1_ HO281.out⟩, ⟨W1_⟩⟩
       ·
        rw [if_neg c9] at H
        exact absurd H (by simp)
     ·
      rw [if_neg c5] at H
      have c5b0 : decide (65 ≤ (bt a0 x4_1)) = false := decide_eq_false c5
      clear c5
      by_cases c11 : x3_1.length < 140737488355328
      ·
       rw [if_pos c11] at H
       have LMc11 := Aside0.mk c11
       clear c11
       obtain ⟨y282, hy282⟩ : ∃ y_ : List Int, y_ = (x3_1 ++ [bt a0 x4_1]) := ⟨_, rfl⟩
       replace H : (pantryref01_Lower.l0 k1 a0 y282 (wrap64 (x4_1 + 1))) = some r := by first | (rw [hy282]; with_reducible exact H) | (have H2_ := (Option.bind_some _ _).symm.trans H; rw [hy282]; with_reducible exact H2_) | (have H2_ := (Option.bind_some _ _).symm.trans H; with_reducible exact H2_) | with_reducible exact H | (rw [hy282]; exact H) | exact H
       have Ny282 := Aside0.mk hy282
       clear hy282
       have H' := Aside0.mk H
       clear H
       have p4 : 0 ≤ (x4_1 : Int) := oA_
       have q4 : x4_1 < (a0.size : Int) := oA_
       have hx4 := bt_at a0 x4_1
       replace p4 := eq_true p4
       replace q4 := eq_true q4
       go_wp2_with (first | ((with_reducible refine gate_builtin (b := .append) (xs := #[.tmp 23, .tmp 25]) rfl ?_); at_builtin; refine Kd.R_append (Kd.int .u8) (w0 := w) w.heap.size rfl (.tmp 23) (.tmp 25) 80 5 (.int .u8 0) 1 rfl Tryz.underlying80 info5 rfl (by decide) (by omega) u3 x3_1 (bt a0 x4_1) [.int .u8 (bt a0 x4_1)] (fun _ => True) (fun _ => False) rfl rfl ?aP (fun _ hk => hk.elim) ?aF ?aO ?aB ?aS ?aL ?_; (case aP => exact rfl); (case aB => exact W1_); (case aF => exact (fun _ _ => trivial)); (case aO => exact (R1_ HO_3.out)); (case aS => exact (below_size W1_)); (case aL => have := LMc11.out; omega); intro v283 w12 ho hb hg hat; rw [← Ny282.out] at ho; have n0_ := Aside0.mk (hb); have n1_ := Aside0.mk (ho); clear HB; clear HO_3; have HB := n0_; have HO284 := n1_; clear n0_ n1_; clear ho hb hg hat))
       go_roundg k1
       case measure => have := HK1.out; omega
       case rel => exact ⟨(y282), (wrap64 (x4_1 + 1)), E3_, H', ⟨by have := HK1.out; omega⟩, ⟨R1_ HO284.out⟩, ⟨W1_⟩⟩
      ·
       rw [if_neg c11] at H
       exact absurd H (by simp)
    ·
     rw [if_neg c3] at H
     exact absurd H (by simp)
   ·
    rw [if_neg c2] at H
    have c2b0 : decide (x4_1 < (a0.size : Int)) = false := decide_eq_false c2
    clear c2
    obtain rfl := Option.some.inj H
    have hcv13 := own_string (P := Tryz.prog) Tryz.underlying80 Tryz.underlying5 Tryz.underlying9 (Kd.own_of_R HO_3.out)
    go_wp2
    go_ret
    exact ⟨E1_, W1_⟩

end Go.Proofs.YtgpekljckdgggaaGreatDoor.PAll
