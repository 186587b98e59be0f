import Derived.Test.YtlncpbnadlpihaaGreatDoorPAllx0
import Derived.Test.YtlncpbnadlpihaaGreatDoorPAllx1
import Derived.Test.YtlncpbnadlpihaaGreatDoorPAllx8
import Derived.Test.YtlncpbnadlpihaaGreatDoorPAllx16
namespace Go.Proofs.YtlncpbnadlpihaaGreatDoor.PAll
open Go.RowKit Go.Proofs.YtlncpbnadlpihaaGreatDoorW.PrintWords Go.Proofs.YtlncpbnadlpihaaGreatDoorW.PrintLast Go.Proofs.YtlncpbnadlpihaaGreatDoorW.PrintMore
attribute [local go_sem] max2_int min2_int max_two min_two max_three min_three max_four min_four   -- for this text's walks alone
set_option linter.unusedVariables false
set_option linter.unusedSimpArgs false

attribute [local go_sem high] eqA40
/-! ### pantrylaw10_anchor: function 8 -/
def pantrylaw10_anchor.f (k : Nat)  : Option (Bool) := (conf_Read.f k (⟨#[115, 105, 116, 101, 32, 97, 32, 123, 125]⟩ : ByteArray)).bind fun bt254 => ((conf_Read.f k (⟨#[115, 105, 116, 101, 32, 97, 32, 123, 32, 116, 116, 108, 32, 48, 32, 57, 59, 32, 125]⟩ : ByteArray)).bind fun bt261 => ((plan_First.f).bind fun bt268 => ((plan_Table_Next.f k bt268.1 bt268.2 bt254.1).bind fun bt272 => ((plan_Table_Next.f k bt272.1 bt272.2.1 bt261.1).bind fun bt281 => (if bt272.2.2.2 = 0 then (if bt281.2.2.2 = 0 then (if (bt272.2.2.1.length : Int) = 1 then (if 0 < (bt272.2.2.1.length : Int) then (if (((rd_T40 bt272.2.2.1 0).f0) == 3 && ((((rd_T40 bt272.2.2.1 0).f1).toList) == ([97] : List UInt8))) = true then (if 0 < (bt272.2.1.length : Int) then (if ((rd_T59 bt272.2.1 0).f1) = 1 then (if 0 < (bt281.2.2.1.length : Int) then (if ((rd_T40 bt281.2.2.1 0).f0) = 1 then (if 0 < (bt281.2.1.length : Int) then (if ((rd_T59 bt281.2.1 0).f1) = 2 then (some (bt281.1 == 2)) else (none)) else (none)) else (none)) else (none)) else (none)) else (none)) else (none)) else (none)) else (none)) else (none)) else (none))))))
theorem pantrylaw10_anchor.mono : ∀ k, LeO (pantrylaw10_anchor.f k ) (pantrylaw10_anchor.f (k + 1) ) := by
 intro  k
 unfold pantrylaw10_anchor.f
 repeat' (with_reducible first | exact conf_Read.mono _ _ | exact plan_Table_Next.mono _ _ _ _ | exact lR_ | refine LeO.ite ?_ ?_ | refine LeO.bind ?_ (fun _ => ?_))
def pantrylaw10_anchor.T3 : Bool × List (List Nat × List Nat) := (true, [([], []), ([], []), ([0, 1, 0], [0, 1]), ([2], [2]), ([3], [3]), ([3], [3]), ([3], [3]), ([], []), ([7, 4, 2, 0, 1, 2, 3, 4, 7], [4, 7]), ([5, 8, 0, 1, 2, 3, 4, 5, 7, 8], [5]), ([6, 9, 0, 1, 2, 3, 4, 5, 6, 7, 8, 9], [6])])
def pantrylaw10_anchor.B3 : List Nat := [0, 0, 3, 7, 15, 15, 15, 0, 159, 447, 1023]
theorem pantrylaw10_anchor.tab3 : rtab .any (opsOf Tryz.f8 3) = pantrylaw10_anchor.T3 := by kernel_rfl
theorem pantrylaw10_anchor.bits3 : waitsOk pantrylaw10_anchor.T3.2 pantrylaw10_anchor.B3 = true := by kernel_rfl
set_option maxHeartbeats 8000000 in
set_option maxRecDepth 100000 in
theorem pantrylaw10_anchor.calls (k : Nat)  (r : Bool) (w : World) (hrW : WF w) (h : pantrylaw10_anchor.f k  = some r) :
  Calls Tryz.prog 8 #[] w fun e w' => e = .returned (.bool r) ∧ Below w.heap.size w w' := by
 have hu24 := Tryz.underlying24
 have hu79 := Tryz.underlying79
 have hu44 := Tryz.underlying44
 have hu40 := Tryz.underlying40
 have HRW := Aside0.mk hrW
 clear hrW
 have HB := Aside0.mk (Below.refl w.heap.size w)
 have H : ((conf_Read.f k (⟨#[115, 105, 116, 101, 32, 97, 32, 123, 125]⟩ : ByteArray)).bind fun bt254 => ((conf_Read.f k (⟨#[115, 105, 116, 101, 32, 97, 32, 123, 32, 116, 116, 108, 32, 48, 32, 57, 59, 32, 125]⟩ : ByteArray)).bind fun bt261 => ((plan_First.f).bind fun bt268 => ((plan_Table_Next.f k bt268.1 bt268.2 bt254.1).bind fun bt272 => ((plan_Table_Next.f k bt272.1 bt272.2.1 bt261.1).bind fun bt281 => (if bt272.2.2.2 = 0 then (if bt281.2.2.2 = 0 then (if (bt272.2.2.1.length : Int) = 1 then (if 0 < (bt272.2.2.1.length : Int) then (if (((rd_T40 bt272.2.2.1 0).f0) == 3 && ((((rd_T40 bt272.2.2.1 0).f1).toList) == ([97] : List UInt8))) = true then (if 0 < (bt272.2.1.length : Int) then (if ((rd_T59 bt272.2.1 0).f1) = 1 then (if 0 < (bt281.2.2.1.length : Int) then (if ((rd_T40 bt281.2.2.1 0).f0) = 1 then (if 0 < (bt281.2.1.length : Int) then (if ((rd_T59 bt281.2.1 0).f1) = 2 then (some (bt281.1 == 2)) else (none)) else (none)) else (none)) else (none)) else (none)) else (none)) else (none)) else (none)) else (none)) else (none)) else (none))))))) = some r := h
 clear h
 obtain ⟨⟨t254, t257, t258⟩, A1, H⟩ := bS_ H
 try dsimp only at H
 obtain ⟨⟨t261, t264, t265⟩, A2, H⟩ := bS_ H
 try dsimp only at H
 obtain ⟨⟨t268, t269⟩, A3, H⟩ := bS_ H
 try dsimp only at H
 obtain ⟨⟨t272, t273, t276, t279⟩, A4, H⟩ := bS_ H
 try dsimp only at H
 obtain ⟨⟨t281, t282, t285, t288⟩, A5, H⟩ := bS_ H
 try dsimp only at H
 by_cases c6 : t279 = 0
 ·
  rw [if_pos c6] at H
  have c6b0 : (t279 == 0) = true := beq_iff_eq.mpr c6
  have c6b1 : (t279 != 0) = false := bne_eq_false_iff_eq.mpr c6
  clear c6
  by_cases c7 : t288 = 0
  ·
   rw [if_pos c7] at H
   have c7b0 : (t288 == 0) = true := beq_iff_eq.mpr c7
   have c7b1 : (t288 != 0) = false := bne_eq_false_iff_eq.mpr c7
   clear c7
   by_cases c8 : (t276.length : Int) = 1
   ·
    rw [if_pos c8] at H
    have c8b0 : ((t276.length : Int) == 1) = true := beq_iff_eq.mpr c8
    have c8b1 : ((t276.length : Int) != 1) = false := bne_eq_false_iff_eq.mpr c8
    clear c8
    by_cases c9 : 0 < (t276.length : Int)
    ·
     rw [if_pos c9] at H
     have c9b0 : decide (0 < (t276.length : Int)) = true := decide_eq_true c9
     have c9b1 : decide (0 < t276.length) = true := decide_eq_true (by omega)
     clear c9
     by_cases c10 : (((rd_T40 t276 0).f0) == 3 && ((((rd_T40 t276 0).f1).toList) == ([97] : List UInt8))) = true
     ·
      rw [if_pos c10] at H
      have c10b0 : (((rd_T40 t276 0).f0) == 3 && ((((rd_T40 t276 0).f1).toList) == ([97] : List UInt8))) = true := c10
      (try (have c10b1 : decide (((rd_T40 t276 0).f0) = 3 && ((((rd_T40 t276 0).f1).toList) == ([97] : List UInt8))) = true := by simpa using c10))
      (try (have c10b2 : (((rd_T40 t276 0).f0) == 3 && ((((rd_T40 t276 0).f1).toList) == ([97] : List UInt8))) = true := by simpa using c10))
      clear c10
      by_cases c11 : 0 < (t273.length : Int)
      ·
       rw [if_pos c11] at H
       have c11b0 : decide (0 < (t273.length : Int)) = true := decide_eq_true c11
       have c11b1 : decide (0 < t273.length) = true := decide_eq_true (by omega)
       clear c11
       by_cases c12 : ((rd_T59 t273 0).f1) = 1
       ·
        rw [if_pos c12] at H
        have c12b0 : (((rd_T59 t273 0).f1) == 1) = true := beq_iff_eq.mpr c12
        have c12b1 : (((rd_T59 t273 0).f1) != 1) = false := bne_eq_false_iff_eq.mpr c12
        clear c12
        by_cases c13 : 0 < (t285.length : Int)
        ·
         rw [if_pos c13] at H
         have c13b0 : decide (0 < (t285.length : Int)) = true := decide_eq_true c13
         have c13b1 : decide (0 < t285.length) = true := decide_eq_true (by omega)
         clear c13
         by_cases c14 : ((rd_T40 t285 0).f0) = 1
         ·
          rw [if_pos c14] at H
          have c14b0 : (((rd_T40 t285 0).f0) == 1) = true := beq_iff_eq.mpr c14
          have c14b1 : (((rd_T40 t285 0).f0) != 1) = false := bne_eq_false_iff_eq.mpr c14
          clear c14
          by_cases c15 : 0 < (t282.length : Int)
          ·
           rw [if_pos c15] at H
           have c15b0 : decide (0 < (t282.length : Int)) = true := decide_eq_true c15
           have c15b1 : decide (0 < t282.length) = true := decide_eq_true (by omega)
           clear c15
           by_cases c16 : ((rd_T59 t282 0).f1) = 2
           ·
            rw [if_pos c16] at H
            have c16b0 : (((rd_T59 t282 0).f1) == 2) = true := beq_iff_eq.mpr c16
            have c16b1 : (((rd_T59 t282 0).f1) != 2) = false := bne_eq_false_iff_eq.mpr c16
            clear c16
            obtain rfl := Option.some.inj H
            go_enter Tryz.func8, Tryz.ntmps8
            try go_wp2_with (first | ((with_reducible refine gate_callee (f := 33) rfl ?_); refine goesL_ (some 12) rfl rfl Tryz.func33 (by kernel_rfl) rfl #[.string (⟨#[115, 105, 116, 101, 32, 97, 32, 123, 125]⟩ : ByteArray)] rfl T1_ ?_; (with_reducible refine (conf_Read.calls k (⟨#[115, 105, 116, 101, 32, 97, 32, 123, 125]⟩ : ByteArray) t254 t257 t258 _ ?side1 A1.out).mono ?_); (case side1 => exact C1_ (HRW.out)); rintro e w17 ⟨v255, rfl, ho0, hb⟩; refine ⟨_, rfl, ?_⟩; have HO256 := Aside0.mk (Kd.S_lower ho0 (below_size W1_)); replace HB := y1_ hb; (try clear hb); (try clear ho0)) | ((with_reducible refine gate_dst (N := 1) rfl ?_); (try (refine gate_guard (by rfl) ?_; dsimp only)); refine box_event ?hg (N := 1) ?hd (cs := #[.slice none 0 0]) (t := 24) ?hr ?_; (case hd | hg => rfl); (case hr => exact S1_); intro gb259 hg w18 hbox hb; have BK259 := Aside0.mk (hbox); have GW259 := Aside0.mk ((Z1_ : w.heap.size ≤ gb259)); have GE259 := Aside0.mk ((Z1_ : w.heap.size ≤ gb259)); replace HO256 := Aside0.mk (Kd.S_below (by (with_reducible repeat (first | apply Kd.S_alloc | apply Kd.S_drewN | apply Kd.S_drew)); exact HO256.out) hb); replace HB := y1_ hb; clear hb hbox hg) | ((with_reducible refine gate_dst (N := 2) rfl ?_); (try (refine gate_guard (by rfl) ?_; dsimp only)); refine box_event ?hg (N := 2) ?hd (cs := #[.int .i64 0, .int .i64 0]) (t := 79) ?hr ?_; (case hd | hg => rfl); (case hr => exact S1_); intro gb260 hg w19 hbox hb; have BK260 := Aside0.mk (hbox); have GW260 := Aside0.mk ((Z2_ : w.heap.size ≤ gb260)); have GE260 := Aside0.mk ((Z2_ : w.heap.size ≤ gb260)); have NB259_260 := Aside0.mk ((by rw [hg]; exact Nat.ne_of_lt (blk_lt (B1_ BK259.out)) : gb259 ≠ gb260)); have NB260_259 := Aside0.mk ((by rw [hg]; exact Nat.ne_of_gt (blk_lt (B1_ BK259.out)) : gb260 ≠ gb259)); replace HO256 := Aside0.mk (Kd.S_below (by (with_reducible repeat (first | apply Kd.S_alloc | apply Kd.S_drewN | apply Kd.S_drew)); exact HO256.out) hb); replace BK259 := yB_ BK259 hb; replace HB := y2_ hb; clear hb hbox hg; obtain ⟨Ao20, co20, eo20⟩ := Kd.S_slice HO256.out; subst eo20; have hnb21 := NB259_260.out; have hnc21 := NB260_259.out; obtain ⟨z22_0, y22_0⟩ := cz1_ BK259.out; obtain ⟨z23_0, z23_1, y23_0, y23_1⟩ := cz2_ BK260.out) | ((with_reducible refine gate_callee (f := 33) rfl ?_); refine goesL_ (some 16) rfl rfl Tryz.func33 (by kernel_rfl) rfl #[.string (⟨#[115, 105, 116, 101, 32, 97, 32, 123, 32, 116, 116, 108, 32, 48, 32, 57, 59, 32, 125]⟩ : ByteArray)] rfl T1_ ?_; (with_reducible refine (conf_Read.calls k (⟨#[115, 105, 116, 101, 32, 97, 32, 123, 32, 116, 116, 108, 32, 48, 32, 57, 59, 32, 125]⟩ : ByteArray) t261 t264 t265 _ ?side1 A2.out).mono ?_); (case side1 => exact WF.below HRW.out W2_); rintro e w24 ⟨v262, rfl, ho0, hb⟩; refine ⟨_, rfl, ?_⟩; have HO263 := Aside0.mk (Kd.S_lower (Kd.S_new' ho0 (Kd.S_lt (by (with_reducible repeat (first | apply Kd.S_alloc | apply Kd.S_drewN | apply Kd.S_drew)); exact (Kd.S_mono (Kd.S_mono (Kd.S_far (p := ⟨gb260, 1, none⟩) (Kd.S_far (p := ⟨gb260, 0, none⟩) (Kd.S_far (p := ⟨gb259, 0, none⟩) (Kd.S_types (Kd.S_types HO256.out BK259.out (by decide)) BK260.out (by decide)) (fun _ hk => hk.1.2) (.slice Ao20 t254.length co20)) (fun _ hk => hk.2) (.int .i64 t257)) (fun _ hk => hk.2) (.int .i64 t258)) (fun _ h_ => h_.1)) (fun _ h_ => h_.1))))) (below_size W2_)); replace HO256 := Aside0.mk (Kd.S_elder' (by (with_reducible repeat (first | apply Kd.S_alloc | apply Kd.S_drewN | apply Kd.S_drew)); exact (Kd.S_mono (Kd.S_mono (Kd.S_far (p := ⟨gb260, 1, none⟩) (Kd.S_far (p := ⟨gb260, 0, none⟩) (Kd.S_far (p := ⟨gb259, 0, none⟩) (Kd.S_types (Kd.S_types HO256.out BK259.out (by decide)) BK260.out (by decide)) (fun _ hk => hk.1.2) (.slice Ao20 t254.length co20)) (fun _ hk => hk.2) (.int .i64 t257)) (fun _ hk => hk.2) (.int .i64 t258)) (fun _ h_ => h_.1)) (fun _ h_ => h_.1))) (Kd.S_base ho0) hb); replace BK259 := Aside0.mk (blk_below (g := gb259) (o := .cells #[.slice Ao20 t254.length co20] 24 (0, 0)) (G1_ BK259.out) hb); replace BK260 := Aside0.mk (blk_below (g := gb260) (o := .cells #[.int .i64 t257, .int .i64 t258] 79 (0, 0)) (G1_ BK260.out) hb); replace HB := y2_ hb; (try clear hb); (try clear hk); (try clear ho0)) | ((with_reducible refine gate_dst (N := 3) rfl ?_); (try (refine gate_guard (by rfl) ?_; dsimp only)); refine box_event ?hg (N := 3) ?hd (cs := #[.slice none 0 0]) (t := 24) ?hr ?_; (case hd | hg => rfl); (case hr => exact S1_); intro gb266 hg w25 hbox hb; have BK266 := Aside0.mk (hbox); have GW266 := Aside0.mk ((Z2_ : w.heap.size ≤ gb266)); have GE266 := Aside0.mk ((Z2_ : w.heap.size ≤ gb266)); have NB259_266 := Aside0.mk ((by rw [hg]; exact Nat.ne_of_lt (blk_lt (B1_ BK259.out)) : gb259 ≠ gb266)); have NB266_259 := Aside0.mk ((by rw [hg]; exact Nat.ne_of_gt (blk_lt (B1_ BK259.out)) : gb266 ≠ gb259)); have NB260_266 := Aside0.mk ((by rw [hg]; exact Nat.ne_of_lt (blk_lt (B1_ BK260.out)) : gb260 ≠ gb266)); have NB266_260 := Aside0.mk ((by rw [hg]; exact Nat.ne_of_gt (blk_lt (B1_ BK260.out)) : gb266 ≠ gb260)); replace HO256 := Aside0.mk (Kd.S_below (by (with_reducible repeat (first | apply Kd.S_alloc | apply Kd.S_drewN | apply Kd.S_drew)); exact HO256.out) hb); replace HO263 := Aside0.mk (Kd.S_below (by (with_reducible repeat (first | apply Kd.S_alloc | apply Kd.S_drewN | apply Kd.S_drew)); exact HO263.out) hb); replace BK259 := yB_ BK259 hb; replace BK260 := yB_ BK260 hb; replace HB := y2_ hb; clear hb hbox hg) | ((with_reducible refine gate_dst (N := 4) rfl ?_); (try (refine gate_guard (by rfl) ?_; dsimp only)); refine box_event ?hg (N := 4) ?hd (cs := #[.int .i64 0, .int .i64 0]) (t := 79) ?hr ?_; (case hd | hg => rfl); (case hr => exact S1_); intro gb267 hg w26 hbox hb; have BK267 := Aside0.mk (hbox); have GW267 := Aside0.mk ((Z2_ : w.heap.size ≤ gb267)); have GE267 := Aside0.mk ((Z2_ : w.heap.size ≤ gb267)); have NB259_267 := Aside0.mk ((by rw [hg]; exact Nat.ne_of_lt (blk_lt (B1_ BK259.out)) : gb259 ≠ gb267)); have NB267_259 := Aside0.mk ((by rw [hg]; exact Nat.ne_of_gt (blk_lt (B1_ BK259.out)) : gb267 ≠ gb259)); have NB260_267 := Aside0.mk ((by rw [hg]; exact Nat.ne_of_lt (blk_lt (B1_ BK260.out)) : gb260 ≠ gb267)); have NB267_260 := Aside0.mk ((by rw [hg]; exact Nat.ne_of_gt (blk_lt (B1_ BK260.out)) : gb267 ≠ gb260)); have NB266_267 := Aside0.mk ((by rw [hg]; exact Nat.ne_of_lt (blk_lt (B1_ BK266.out)) : gb266 ≠ gb267)); have NB267_266 := Aside0.mk ((by rw [hg]; exact Nat.ne_of_gt (blk_lt (B1_ BK266.out)) : gb267 ≠ gb266)); replace HO256 := Aside0.mk (Kd.S_below (by (with_reducible repeat (first | apply Kd.S_alloc | apply Kd.S_drewN | apply Kd.S_drew)); exact HO256.out) hb); replace HO263 := Aside0.mk (Kd.S_below (by (with_reducible repeat (first | apply Kd.S_alloc | apply Kd.S_drewN | apply Kd.S_drew)); exact HO263.out) hb); replace BK259 := yB_ BK259 hb; replace BK260 := yB_ BK260 hb; replace BK266 := yB_ BK266 hb; replace HB := y2_ hb; clear hb hbox hg; obtain ⟨Ao27, co27, eo27⟩ := Kd.S_slice HO263.out; subst eo27; have hnb28 := NB266_259.out; have hnc28 := NB259_266.out; have hnb29 := NB266_260.out; have hnc29 := NB260_266.out; have hnb30 := NB266_267.out; have hnc30 := NB267_266.out; obtain ⟨z31_0, y31_0⟩ := cz1_ BK266.out; have hnb32 := NB267_259.out; have hnc32 := NB259_267.out; have hnb33 := NB267_260.out; have hnc33 := NB260_267.out; obtain ⟨z34_0, z34_1, y34_0, y34_1⟩ := cz2_ BK267.out))
            have n0_ : Aside0 (Kd.S k57 57 (((w26.setCell ⟨gb266, 0, none⟩ (.slice Ao27 t261.length co27)).setCell ⟨gb267, 0, none⟩ (.int .i64 t264)).setCell ⟨gb267, 1, none⟩ (.int .i64 t265)) w.heap.size (fun k_ => some k_ ≠ (.slice Ao27 t261.length co27 : Value).ownBlock) (.slice Ao20 t254.length co20) t254) := ⟨by (with_reducible repeat (first | apply Kd.S_alloc | apply Kd.S_drewN | apply Kd.S_drew)); exact Kd.S_mono (Kd.S_far (p := ⟨gb267, 1, none⟩) (Kd.S_far (p := ⟨gb267, 0, none⟩) (Kd.S_far (p := ⟨gb266, 0, none⟩) (Kd.S_types (Kd.S_types HO256.out BK266.out (by decide)) BK267.out (by decide)) (fun _ hk => hk.1.2) (.slice Ao27 t261.length co27)) (fun _ hk => hk.2) (.int .i64 t264)) (fun _ hk => hk.2) (.int .i64 t265)) (fun _ hk => hk.1.1.2)⟩
            have n1_ : Aside0 (Kd.S k57 57 (((w26.setCell ⟨gb266, 0, none⟩ (.slice Ao27 t261.length co27)).setCell ⟨gb267, 0, none⟩ (.int .i64 t264)).setCell ⟨gb267, 1, none⟩ (.int .i64 t265)) w.heap.size (fun k_ => some k_ ≠ (.slice Ao20 t254.length co20 : Value).ownBlock) (.slice Ao27 t261.length co27) t261) := ⟨by (with_reducible repeat (first | apply Kd.S_alloc | apply Kd.S_drewN | apply Kd.S_drew)); exact Kd.S_mono (Kd.S_far (p := ⟨gb267, 1, none⟩) (Kd.S_far (p := ⟨gb267, 0, none⟩) (Kd.S_far (p := ⟨gb266, 0, none⟩) (Kd.S_types (Kd.S_types HO263.out BK266.out (by decide)) BK267.out (by decide)) (fun _ hk => hk.1.2) (.slice Ao27 t261.length co27)) (fun _ hk => hk.2) (.int .i64 t264)) (fun _ hk => hk.2) (.int .i64 t265)) (fun _ hk => hk.1.1.2)⟩
            have n2_ : Aside0 ((((w26.setCell ⟨gb266, 0, none⟩ (.slice Ao27 t261.length co27)).setCell ⟨gb267, 0, none⟩ (.int .i64 t264)).setCell ⟨gb267, 1, none⟩ (.int .i64 t265)).heap[gb259]? = some (.cells #[.slice Ao20 t254.length co20] 24 (0, 0))) := ⟨G1_ BK259.out⟩
            have n3_ : Aside0 ((((w26.setCell ⟨gb266, 0, none⟩ (.slice Ao27 t261.length co27)).setCell ⟨gb267, 0, none⟩ (.int .i64 t264)).setCell ⟨gb267, 1, none⟩ (.int .i64 t265)).heap[gb260]? = some (.cells #[.int .i64 t257, .int .i64 t258] 79 (0, 0))) := ⟨G1_ BK260.out⟩
            have n4_ : Aside0 ((((w26.setCell ⟨gb266, 0, none⟩ (.slice Ao27 t261.length co27)).setCell ⟨gb267, 0, none⟩ (.int .i64 t264)).setCell ⟨gb267, 1, none⟩ (.int .i64 t265)).heap[gb266]? = some (.cells #[.slice Ao27 t261.length co27] 24 (0, 0))) := ⟨G1_ BK266.out⟩
            have n5_ : Aside0 ((((w26.setCell ⟨gb266, 0, none⟩ (.slice Ao27 t261.length co27)).setCell ⟨gb267, 0, none⟩ (.int .i64 t264)).setCell ⟨gb267, 1, none⟩ (.int .i64 t265)).heap[gb267]? = some (.cells #[.int .i64 t264, .int .i64 t265] 79 (0, 0))) := ⟨G1_ BK267.out⟩
            have n6_ : Aside0 (Below w.heap.size w (((w26.setCell ⟨gb266, 0, none⟩ (.slice Ao27 t261.length co27)).setCell ⟨gb267, 0, none⟩ (.int .i64 t264)).setCell ⟨gb267, 1, none⟩ (.int .i64 t265))) := ⟨W2_⟩
            (try clear HO256)
            (try clear HO263)
            (try clear BK259)
            (try clear BK260)
            (try clear BK266)
            (try clear BK267)
            (try clear HB)
            generalize (((w26.setCell ⟨gb266, 0, none⟩ (.slice Ao27 t261.length co27)).setCell ⟨gb267, 0, none⟩ (.int .i64 t264)).setCell ⟨gb267, 1, none⟩ (.int .i64 t265)) = w35 at n0_ n1_ n2_ n3_ n4_ n5_ n6_ ⊢
            have HO256 := n0_
            have HO263 := n1_
            have BK259 := n2_
            have BK260 := n3_
            have BK266 := n4_
            have BK267 := n5_
            have HB := n6_
            clear n0_ n1_ n2_ n3_ n4_ n5_ n6_
            have n0_ := Aside0.mk (Kd.S_drew HO256.out)
            have n1_ := Aside0.mk (Kd.S_drew HO263.out)
            have n2_ := Aside0.mk (bD_ BK259.out)
            have n3_ := Aside0.mk (bD_ BK260.out)
            have n4_ := Aside0.mk (bD_ BK266.out)
            have n5_ := Aside0.mk (bD_ BK267.out)
            have n6_ := Aside0.mk (zD_ HB.out)
            clear HO256
            clear HO263
            clear BK259
            clear BK260
            clear BK266
            clear BK267
            clear HB
            have HO256 := n0_
            have HO263 := n1_
            have BK259 := n2_
            have BK260 := n3_
            have BK266 := n4_
            have BK267 := n5_
            have HB := n6_
            clear n0_ n1_ n2_ n3_ n4_ n5_ n6_
            refine start_ (n := 11) (S := fun w' => w'.cell? ⟨gb259, 0, none⟩ = some (.slice Ao20 t254.length co20)) (ds := []) #[false, false, false, false, false, false, false, false, false, false, false] (by kernel_rfl) rfl rfl (xC_ BK259.out 0) (fun hHeld => ?_); refine with_tabW pantrylaw10_anchor.tab3 pantrylaw10_anchor.bits3 (fun HT_ HW_ => ?_)
            generalize w35.drew = w36 at HO256 HO263 BK259 BK260 BK266 BK267 HB hHeld ⊢
            refine take_ (i := 1) (N := some 21) (v := ?_) (a' := ?_) #[false, true, false, false, false, false, false, false, false, false, false] rfl rfl (take_ofW HT_.out HW_.out (by kernel_rfl)) (fun _ _ _ h => h) (Or.inl ⟨by rfl, ?_⟩) hHeld ?_ ?_
            rotate_left
            ·
             intro w' s0
             go_simp
             with_reducible rfl
            rotate_left
            ·
             simp only [Act.put, sA_, sZ_, sS_, i64_w, i32_w]
             rfl
            refine join_ (σ := Value × Value × Value × Nat) 3 #[true, true, true, true, true, true, true, true, false, false, false] (fun s_ => [(20, .agg #[.int .i64 t268, s_.1]), (22, .tuple #[.agg #[.int .i64 t272, s_.2.1], s_.2.2.1, .int .i64 t279]), (5, .pointer (some ⟨s_.2.2.2, 0, none⟩)), (19, .tuple #[.agg #[.int .i64 t272, s_.2.1], s_.2.2.1, .int .i64 t279]), (23, .agg #[.int .i64 t272, s_.2.1]), (24, s_.2.2.1), (25, .int .i64 t279)]) (fun s_ w' => (w'.cell? ⟨gb259, 0, none⟩ = some (.slice Ao20 t254.length co20)) ∧ (Kd.S k57 57 w' w.heap.size (fun k_ => some k_ ≠ (.slice Ao27 t261.length co27 : Value).ownBlock) (.slice Ao20 t254.length co20) t254) ∧ (Kd.S k57 57 w' w.heap.size (fun k_ => some k_ ≠ (.slice Ao20 t254.length co20 : Value).ownBlock) (.slice Ao27 t261.length co27) t261) ∧ (Kd.S k59 59 w' w.heap.size (fun k_ => some k_ ≠ (s_.2.1 : Value).ownBlock) s_.1 t269) ∧ (Kd.S k59 59 w' w.heap.size (fun k_ => some k_ ≠ (s_.1 : Value).ownBlock) s_.2.1 t273) ∧ (Kd.R k40 40 w' w.heap.size (fun _ => True) s_.2.2.1 t276) ∧ (w'.heap[gb259]? = some (.cells #[.slice Ao20 t254.length co20] 24 (0, 0))) ∧ (w'.heap[gb260]? = some (.cells #[.int .i64 t257, .int .i64 t258] 79 (0, 0))) ∧ (w'.heap[gb266]? = some (.cells #[.slice Ao27 t261.length co27] 24 (0, 0))) ∧ (w'.heap[gb267]? = some (.cells #[.int .i64 t264, .int .i64 t265] 79 (0, 0))) ∧ (w'.heap[s_.2.2.2]? = some (.cells #[.int .i64 0, .slice none 0 0] 44 (0, 0))) ∧ (w.heap.size ≤ s_.2.2.2) ∧ (w.heap.size ≤ s_.2.2.2) ∧ (gb259 ≠ s_.2.2.2) ∧ (s_.2.2.2 ≠ gb259) ∧ (gb260 ≠ s_.2.2.2) ∧ (s_.2.2.2 ≠ gb260) ∧ (gb266 ≠ s_.2.2.2) ∧ (s_.2.2.2 ≠ gb266) ∧ (gb267 ≠ s_.2.2.2) ∧ (s_.2.2.2 ≠ gb267) ∧ (Below w.heap.size w w')) ?_ ?_
            rotate_left
            ·
             intro hCont
             refine two_ (i := 0) (j := 7) (Ni := some 20) (Nj := some 5) #[true, true, false, false, false, false, false, false, false, false, false] #[false, true, false, false, false, false, false, true, false, false, false] rfl rfl rfl rfl (two_of HT_.out (by kernel_rfl)) (by decide) (by decide) (fun K hK => ?_) (fun K hK => ?_)
             ·
              skip
              refine goes_ Tryz.func30 (by kernel_rfl) rfl #[] (by rfl) rfl rfl T1_ ?_
              with_reducible refine (plan_First.calls  t268 t269 _ A3.out).mono ?_
              rintro e w37 ⟨v270, rfl, ho0, hb⟩
              refine ⟨_, rfl, ?_⟩
              have n0_ := Aside0.mk (Kd.S_below (by (with_reducible repeat (first | apply Kd.S_alloc | apply Kd.S_drewN | apply Kd.S_drew)); exact HO256.out) hb)
              have n1_ := Aside0.mk (Kd.S_below (by (with_reducible repeat (first | apply Kd.S_alloc | apply Kd.S_drewN | apply Kd.S_drew)); exact HO263.out) hb)
              have n2_ := Aside0.mk (Kd.S_lower ho0 (below_size W2_))
              have n3_ := Aside0.mk (blk_below (B1_ BK259.out) hb)
              have n4_ := Aside0.mk (blk_below (B1_ BK260.out) hb)
              have n5_ := Aside0.mk (blk_below (B1_ BK266.out) hb)
              have n6_ := Aside0.mk (blk_below (B1_ BK267.out) hb)
              have n7_ := Aside0.mk (below_step W2_ hb)
              clear HO256
              clear HO263
              clear BK259
              clear BK260
              clear BK266
              clear BK267
              clear HB
              have HO256 := n0_
              have HO263 := n1_
              have HO271 := n2_
              have BK259 := n3_
              have BK260 := n4_
              have BK266 := n5_
              have BK267 := n6_
              have HB := n7_
              clear n0_ n1_ n2_ n3_ n4_ n5_ n6_ n7_
              (try clear hb)
              (try clear hb2)
              (try clear hk)
              (try clear hi)
              (try clear ho0)
              obtain ⟨Ao38, co38, eo38⟩ := Kd.S_slice HO271.out
              (first | subst eo38 | (injection eo38 with f1_ f2_ f3_; have f4_ := f1_.symm; have f5_ := f3_.symm; clear f1_ f2_ f3_; subst f4_; subst f5_))
              refine hK.out _ _ (xC_ BK259.out 0) (fun hHeld => ?_)
              clear hK K
              refine norm_ (a' := ?_) ?_ ?_
              rotate_left
              ·
               show Act.put _ (some 20) _ = _
               simp only [Act.put, sA_, sZ_, sS_, i64_w, i32_w]
               rfl
              refine two_ (i := 2) (j := 7) (Ni := some 22) (Nj := some 5) #[true, true, true, false, false, false, false, false, false, false, false] #[true, true, false, false, false, false, false, true, false, false, false] rfl rfl rfl rfl (two_of HT_.out (by kernel_rfl)) (by decide) (by decide) (fun K hK => ?_) (fun K hK => ?_)
              ·
               skip
               refine goes_ Tryz.func18 (by kernel_rfl) rfl #[.agg #[.int .i64 t268, .slice Ao38 t269.length co38], .agg #[.slice Ao20 t254.length co20]] (by rfl) rfl rfl T1_ ?_
               with_reducible refine (plan_Table_Next.calls k t268 _ _ t269 _ _ t254 t272 t273 t276 t279 _ ?side1 ?side2 ?side3 ?side4 A4.out).mono ?_
               (case side1 => exact C1_ ((Kd.S_reads' HO271.out).2.2))
               (case side2 => exact (Kd.S_reads' HO271.out).2.1)
               (case side3 => exact C1_ ((Kd.S_reads' HO256.out).2.2))
               (case side4 => exact (Kd.S_reads' HO256.out).2.1)
               rintro e w39 ⟨v274, v277, rfl, ho0, ho1, hb⟩
               refine ⟨_, rfl, ?_⟩
               have n0_ := Aside0.mk (Kd.S_below (by (with_reducible repeat (first | apply Kd.S_alloc | apply Kd.S_drewN | apply Kd.S_drew)); exact HO256.out) hb)
               have n1_ := Aside0.mk (Kd.S_below (by (with_reducible repeat (first | apply Kd.S_alloc | apply Kd.S_drewN | apply Kd.S_drew)); exact HO263.out) hb)
               have n2_ := Aside0.mk (Kd.S_elder' (by (with_reducible repeat (first | apply Kd.S_alloc | apply Kd.S_drewN | apply Kd.S_drew)); exact HO271.out) (Kd.S_base ho0) hb)
               have n3_ := Aside0.mk (Kd.S_lower (Kd.S_new' ho0 (Kd.S_lt (by (with_reducible repeat (first | apply Kd.S_alloc | apply Kd.S_drewN | apply Kd.S_drew)); exact HO271.out))) (below_size W2_))
               have n4_ := Aside0.mk (Kd.R_lower ho1 (below_size W2_))
               have n5_ := Aside0.mk (blk_below (B1_ BK259.out) hb)
               have n6_ := Aside0.mk (blk_below (B1_ BK260.out) hb)
               have n7_ := Aside0.mk (blk_below (B1_ BK266.out) hb)
               have n8_ := Aside0.mk (blk_below (B1_ BK267.out) hb)
               have n9_ := Aside0.mk (below_step W2_ hb)
               clear HO256
               clear HO263
               clear HO271
               clear BK259
               clear BK260
               clear BK266
               clear BK267
               clear HB
               have HO256 := n0_
               have HO263 := n1_
               have HO271 := n2_
               have HO275 := n3_
               have HO278 := n4_
               have BK259 := n5_
               have BK260 := n6_
               have BK266 := n7_
               have BK267 := n8_
               have HB := n9_
               clear n0_ n1_ n2_ n3_ n4_ n5_ n6_ n7_ n8_ n9_
               (try clear hb)
               (try clear hb2)
               (try clear hk)
               (try clear hi)
               (try clear ho0)
               (try clear ho1)
               refine hK.out _ _ (xC_ BK259.out 0) (fun hHeld => ?_)
               clear hK K
               refine norm_ (a' := ?_) ?_ ?_
               rotate_left
               ·
                show Act.put _ (some 22) _ = _
                simp only [Act.put, sA_, sZ_, sS_, i64_w, i32_w]
                rfl
               refine pure_ (i := 3) (N := some 19) (v := ?_) (a' := ?_) #[true, true, true, true, false, false, false, false, false, false, false] rfl rfl (any_of HT_.out (by kernel_rfl)) (fun _ _ _ h => h) (Or.inl ⟨by rfl, ?_⟩) ?_ ?_
               rotate_left
               ·
                intro w'
                go_simp
                with_reducible rfl
               rotate_left
               ·
                simp only [Act.put, sA_, sZ_, sS_, i64_w, i32_w]
                rfl
               refine pure_ (i := 4) (N := some 23) (v := ?_) (a' := ?_) #[true, true, true, true, true, false, false, false, false, false, false] rfl rfl (any_of HT_.out (by kernel_rfl)) (fun _ _ _ h => h) (Or.inl ⟨by rfl, ?_⟩) ?_ ?_
               rotate_left
               ·
                intro w'
                go_simp
                with_reducible rfl
               rotate_left
               ·
                simp only [Act.put, sA_, sZ_, sS_, i64_w, i32_w]
                rfl
               refine pure_ (i := 5) (N := some 24) (v := ?_) (a' := ?_) #[true, true, true, true, true, true, false, false, false, false, false] rfl rfl (any_of HT_.out (by kernel_rfl)) (fun _ _ _ h => h) (Or.inl ⟨by rfl, ?_⟩) ?_ ?_
               rotate_left
               ·
                intro w'
                go_simp
                with_reducible rfl
               rotate_left
               ·
                simp only [Act.put, sA_, sZ_, sS_, i64_w, i32_w]
                rfl
               refine pure_ (i := 6) (N := some 25) (v := ?_) (a' := ?_) #[true, true, true, true, true, true, true, false, false, false, false] rfl rfl (any_of HT_.out (by kernel_rfl)) (fun _ _ _ h => h) (Or.inl ⟨by rfl, ?_⟩) ?_ ?_
               rotate_left
               ·
                intro w'
                go_simp
                with_reducible rfl
               rotate_left
               ·
                simp only [Act.put, sA_, sZ_, sS_, i64_w, i32_w]
                rfl
               refine one_ (i := 7) (N := some 5) #[true, true, true, true, true, true, true, true, false, false, false] rfl rfl (one_of HT_.out (by kernel_rfl)) (by decide) (fun K hK => ?_)
               refine box_step ?hg (N := 5) ?hd (cs := #[.int .i64 0, .slice none 0 0]) (t := 44) ?hr ?_; (case hd | hg => rfl); (case hr => exact S1_)
               intro gb280 hg w40 hbox hb
               have n0_ := Aside0.mk (Kd.S_below (by (with_reducible repeat (first | apply Kd.S_alloc | apply Kd.S_drewN | apply Kd.S_drew)); exact HO256.out) hb)
               have n1_ := Aside0.mk (Kd.S_below (by (with_reducible repeat (first | apply Kd.S_alloc | apply Kd.S_drewN | apply Kd.S_drew)); exact HO263.out) hb)
               have n2_ := Aside0.mk (Kd.S_below (by (with_reducible repeat (first | apply Kd.S_alloc | apply Kd.S_drewN | apply Kd.S_drew)); exact HO271.out) hb)
               have n3_ := Aside0.mk (Kd.S_below (by (with_reducible repeat (first | apply Kd.S_alloc | apply Kd.S_drewN | apply Kd.S_drew)); exact HO275.out) hb)
               have n4_ := Aside0.mk (Kd.R_below (R1_ HO278.out) hb)
               have n5_ := Aside0.mk (blk_below (B1_ BK259.out) hb)
               have n6_ := Aside0.mk (blk_below (B1_ BK260.out) hb)
               have n7_ := Aside0.mk (blk_below (B1_ BK266.out) hb)
               have n8_ := Aside0.mk (blk_below (B1_ BK267.out) hb)
               have n9_ := Aside0.mk (below_step W2_ hb)
               have n10_ := Aside0.mk (hbox)
               have n11_ := Aside0.mk ((Z2_ : w.heap.size ≤ gb280))
               have n12_ := Aside0.mk ((Z2_ : w.heap.size ≤ gb280))
               have n13_ := Aside0.mk ((by rw [hg]; exact Nat.ne_of_lt (blk_lt (B1_ BK259.out)) : gb259 ≠ gb280))
               have n14_ := Aside0.mk ((by rw [hg]; exact Nat.ne_of_gt (blk_lt (B1_ BK259.out)) : gb280 ≠ gb259))
               have n15_ := Aside0.mk ((by rw [hg]; exact Nat.ne_of_lt (blk_lt (B1_ BK260.out)) : gb260 ≠ gb280))
               have n16_ := Aside0.mk ((by rw [hg]; exact Nat.ne_of_gt (blk_lt (B1_ BK260.out)) : gb280 ≠ gb260))
               have n17_ := Aside0.mk ((by rw [hg]; exact Nat.ne_of_lt (blk_lt (B1_ BK266.out)) : gb266 ≠ gb280))
               have n18_ := Aside0.mk ((by rw [hg]; exact Nat.ne_of_gt (blk_lt (B1_ BK266.out)) : gb280 ≠ gb266))
               have n19_ := Aside0.mk ((by rw [hg]; exact Nat.ne_of_lt (blk_lt (B1_ BK267.out)) : gb267 ≠ gb280))
               have n20_ := Aside0.mk ((by rw [hg]; exact Nat.ne_of_gt (blk_lt (B1_ BK267.out)) : gb280 ≠ gb267))
               clear HO256
               clear HO263
               clear HO271
               clear HO275
               clear HO278
               clear BK259
               clear BK260
               clear BK266
               clear BK267
               clear HB
               have HO256 := n0_
               have HO263 := n1_
               have HO271 := n2_
               have HO275 := n3_
               have HO278 := n4_
               have BK259 := n5_
               have BK260 := n6_
               have BK266 := n7_
               have BK267 := n8_
               have HB := n9_
               have BK280 := n10_
               have GW280 := n11_
               have GE280 := n12_
               have NB259_280 := n13_
               have NB280_259 := n14_
               have NB260_280 := n15_
               have NB280_260 := n16_
               have NB266_280 := n17_
               have NB280_266 := n18_
               have NB267_280 := n19_
               have NB280_267 := n20_
               clear n0_ n1_ n2_ n3_ n4_ n5_ n6_ n7_ n8_ n9_ n10_ n11_ n12_ n13_ n14_ n15_ n16_ n17_ n18_ n19_ n20_
               clear hb hbox hg
               refine hK.out _ _ (xC_ BK259.out 0) (fun hHeld => ?_)
               clear hK K
               refine norm_ (a' := ?_) ?_ ?_
               rotate_left
               ·
                show Act.put _ (some 5) _ = _
                simp only [Act.put, sA_, sZ_, sS_, i64_w, i32_w]
                rfl
               exact norm_ (by simp only [putAll, Act.put, sA_, sZ_, sS_]) (hCont (.slice Ao38 t269.length co38, v274, v277, gb280) _ ⟨hHeld, (by (with_reducible repeat (first | apply Kd.S_alloc | apply Kd.S_drewN | apply Kd.S_drew)); exact HO256.out), (by (with_reducible repeat (first | apply Kd.S_alloc | apply Kd.S_drewN | apply Kd.S_drew)); exact HO263.out), (by (with_reducible repeat (first | apply Kd.S_alloc | apply Kd.S_drewN | apply Kd.S_drew)); exact Kd.S_mono HO271.out (fun _ hk => hk.2)), (by (with_reducible repeat (first | apply Kd.S_alloc | apply Kd.S_drewN | apply Kd.S_drew)); exact Kd.S_mono HO275.out (fun _ hk => hk.2)), (R1_ HO278.out), (B1_ BK259.out), (B1_ BK260.out), (B1_ BK266.out), (B1_ BK267.out), (B1_ BK280.out), GW280.out, GE280.out, NB259_280.out, NB280_259.out, NB260_280.out, NB280_260.out, NB266_280.out, NB280_266.out, NB267_280.out, NB280_267.out, W2_⟩)
              ·
               skip
               refine box_step ?hg (N := 5) ?hd (cs := #[.int .i64 0, .slice none 0 0]) (t := 44) ?hr ?_; (case hd | hg => rfl); (case hr => exact S1_)
               intro gb280 hg w38 hbox hb
               have n0_ := Aside0.mk (Kd.S_below (by (with_reducible repeat (first | apply Kd.S_alloc | apply Kd.S_drewN | apply Kd.S_drew)); exact HO256.out) hb)
               have n1_ := Aside0.mk (Kd.S_below (by (with_reducible repeat (first | apply Kd.S_alloc | apply Kd.S_drewN | apply Kd.S_drew)); exact HO263.out) hb)
               have n2_ := Aside0.mk (Kd.S_below (by (with_reducible repeat (first | apply Kd.S_alloc | apply Kd.S_drewN | apply Kd.S_drew)); exact HO271.out) hb)
               have n3_ := Aside0.mk (blk_below (B1_ BK259.out) hb)
               have n4_ := Aside0.mk (blk_below (B1_ BK260.out) hb)
               have n5_ := Aside0.mk (blk_below (B1_ BK266.out) hb)
               have n6_ := Aside0.mk (blk_below (B1_ BK267.out) hb)
               have n7_ := Aside0.mk (below_step W2_ hb)
               have n8_ := Aside0.mk (hbox)
               have n9_ := Aside0.mk ((Z2_ : w.heap.size ≤ gb280))
               have n10_ := Aside0.mk ((Z2_ : w.heap.size ≤ gb280))
               have n11_ := Aside0.mk ((by rw [hg]; exact Nat.ne_of_lt (blk_lt (B1_ BK259.out)) : gb259 ≠ gb280))
               have n12_ := Aside0.mk ((by rw [hg]; exact Nat.ne_of_gt (blk_lt (B1_ BK259.out)) : gb280 ≠ gb259))
               have n13_ := Aside0.mk ((by rw [hg]; exact Nat.ne_of_lt (blk_lt (B1_ BK260.out)) : gb260 ≠ gb280))
               have n14_ := Aside0.mk ((by rw [hg]; exact Nat.ne_of_gt (blk_lt (B1_ BK260.out)) : gb280 ≠ gb260))
               have n15_ := Aside0.mk ((by rw [hg]; exact Nat.ne_of_lt (blk_lt (B1_ BK266.out)) : gb266 ≠ gb280))
               have n16_ := Aside0.mk ((by rw [hg]; exact Nat.ne_of_gt (blk_lt (B1_ BK266.out)) : gb280 ≠ gb266))
               have n17_ := Aside0.mk ((by rw [hg]; exact Nat.ne_of_lt (blk_lt (B1_ BK267.out)) : gb267 ≠ gb280))
               have n18_ := Aside0.mk ((by rw [hg]; exact Nat.ne_of_gt (blk_lt (B1_ BK267.out)) : gb280 ≠ gb267))
               clear HO256
               clear HO263
               clear HO271
               clear BK259
               clear BK260
               clear BK266
               clear BK267
               clear HB
               have HO256 := n0_
               have HO263 := n1_
               have HO271 := n2_
               have BK259 := n3_
               have BK260 := n4_
               have BK266 := n5_
               have BK267 := n6_
               have HB := n7_
               have BK280 := n8_
               have GW280 := n9_
               have GE280 := n10_
               have NB259_280 := n11_
               have NB280_259 := n12_
               have NB260_280 := n13_
               have NB280_260 := n14_
               have NB266_280 := n15_
               have NB280_266 := n16_
               have NB267_280 := n17_
               have NB280_267 := n18_
               clear n0_ n1_ n2_ n3_ n4_ n5_ n6_ n7_ n8_ n9_ n10_ n11_ n12_ n13_ n14_ n15_ n16_ n17_ n18_
               clear hb hbox hg
               obtain ⟨Ao39, co39, eo39⟩ := Kd.S_slice HO271.out
               (first | subst eo39 | (injection eo39 with f1_ f2_ f3_; have f4_ := f1_.symm; have f5_ := f3_.symm; clear f1_ f2_ f3_; subst f4_; subst f5_))
               refine hK.out _ _ (xC_ BK259.out 0) (fun hHeld => ?_)
               clear hK K
               refine norm_ (a' := ?_) ?_ ?_
               rotate_left
               ·
                show Act.put _ (some 5) _ = _
                simp only [Act.put, sA_, sZ_, sS_, i64_w, i32_w]
                rfl
               refine one_ (i := 2) (N := some 22) #[true, true, true, false, false, false, false, true, false, false, false] rfl rfl (one_of HT_.out (by kernel_rfl)) (by decide) (fun K hK => ?_)
               refine goes_ Tryz.func18 (by kernel_rfl) rfl #[.agg #[.int .i64 t268, .slice Ao39 t269.length co39], .agg #[.slice Ao20 t254.length co20]] (by rfl) rfl rfl T1_ ?_
               with_reducible refine (plan_Table_Next.calls k t268 _ _ t269 _ _ t254 t272 t273 t276 t279 _ ?side1 ?side2 ?side3 ?side4 A4.out).mono ?_
               (case side1 => exact C1_ ((Kd.S_reads' HO271.out).2.2))
               (case side2 => exact (Kd.S_reads' HO271.out).2.1)
               (case side3 => exact C1_ ((Kd.S_reads' HO256.out).2.2))
               (case side4 => exact (Kd.S_reads' HO256.out).2.1)
               rintro e w40 ⟨v274, v277, rfl, ho0, ho1, hb⟩
               refine ⟨_, rfl, ?_⟩
               have n0_ := Aside0.mk (Kd.S_below (by (with_reducible repeat (first | apply Kd.S_alloc | apply Kd.S_drewN | apply Kd.S_drew)); exact HO256.out) hb)
               have n1_ := Aside0.mk (Kd.S_below (by (with_reducible repeat (first | apply Kd.S_alloc | apply Kd.S_drewN | apply Kd.S_drew)); exact HO263.out) hb)
               have n2_ := Aside0.mk (Kd.S_elder' (by (with_reducible repeat (first | apply Kd.S_alloc | apply Kd.S_drewN | apply Kd.S_drew)); exact HO271.out) (Kd.S_base ho0) hb)
               have n3_ := Aside0.mk (Kd.S_lower (Kd.S_new' ho0 (Kd.S_lt (by (with_reducible repeat (first | apply Kd.S_alloc | apply Kd.S_drewN | apply Kd.S_drew)); exact HO271.out))) (below_size W2_))
               have n4_ := Aside0.mk (Kd.R_lower ho1 (below_size W2_))
               have n5_ := Aside0.mk (blk_below (B1_ BK259.out) hb)
               have n6_ := Aside0.mk (blk_below (B1_ BK260.out) hb)
               have n7_ := Aside0.mk (blk_below (B1_ BK266.out) hb)
               have n8_ := Aside0.mk (blk_below (B1_ BK267.out) hb)
               have n9_ := Aside0.mk (blk_below (B1_ BK280.out) hb)
               have n10_ := Aside0.mk (below_step W2_ hb)
               clear HO256
               clear HO263
               clear HO271
               clear BK259
               clear BK260
               clear BK266
               clear BK267
               clear BK280
               clear HB
               have HO256 := n0_
               have HO263 := n1_
               have HO271 := n2_
               have HO275 := n3_
               have HO278 := n4_
               have BK259 := n5_
               have BK260 := n6_
               have BK266 := n7_
               have BK267 := n8_
               have BK280 := n9_
               have HB := n10_
               clear n0_ n1_ n2_ n3_ n4_ n5_ n6_ n7_ n8_ n9_ n10_
               (try clear hb)
               (try clear hb2)
               (try clear hk)
               (try clear hi)
               (try clear ho0)
               (try clear ho1)
               refine hK.out _ _ (xC_ BK259.out 0) (fun hHeld => ?_)
               clear hK K
               refine norm_ (a' := ?_) ?_ ?_
               rotate_left
               ·
                show Act.put _ (some 22) _ = _
                simp only [Act.put, sA_, sZ_, sS_, i64_w, i32_w]
                rfl
               refine pure_ (i := 3) (N := some 19) (v := ?_) (a' := ?_) #[true, true, true, true, false, false, false, true, false, false, false] rfl rfl (any_of HT_.out (by kernel_rfl)) (fun _ _ _ h => h) (Or.inl ⟨by rfl, ?_⟩) ?_ ?_
               rotate_left
               ·
                intro w'
                go_simp
                with_reducible rfl
               rotate_left
               ·
                simp only [Act.put, sA_, sZ_, sS_, i64_w, i32_w]
                rfl
               refine pure_ (i := 4) (N := some 23) (v := ?_) (a' := ?_) #[true, true, true, true, true, false, false, true, false, false, false] rfl rfl (any_of HT_.out (by kernel_rfl)) (fun _ _ _ h => h) (Or.inl ⟨by rfl, ?_⟩) ?_ ?_
               rotate_left
               ·
                intro w'
                go_simp
                with_reducible rfl
               rotate_left
               ·
                simp only [Act.put, sA_, sZ_, sS_, i64_w, i32_w]
                rfl
               refine pure_ (i := 5) (N := some 24) (v := ?_) (a' := ?_) #[true, true, true, true, true, true, false, true, false, false, false] rfl rfl (any_of HT_.out (by kernel_rfl)) (fun _ _ _ h => h) (Or.inl ⟨by rfl, ?_⟩) ?_ ?_
               rotate_left
               ·
                intro w'
                go_simp
                with_reducible rfl
               rotate_left
               ·
                simp only [Act.put, sA_, sZ_, sS_, i64_w, i32_w]
                rfl
               refine pure_ (i := 6) (N := some 25) (v := ?_) (a' := ?_) #[true, true, true, true, true, true, true, true, false, false, false] rfl rfl (any_of HT_.out (by kernel_rfl)) (fun _ _ _ h => h) (Or.inl ⟨by rfl, ?_⟩) ?_ ?_
               rotate_left
               ·
                intro w'
                go_simp
                with_reducible rfl
               rotate_left
               ·
                simp only [Act.put, sA_, sZ_, sS_, i64_w, i32_w]
                rfl
               exact norm_ (by simp only [putAll, Act.put, sA_, sZ_, sS_]) (hCont (.slice Ao39 t269.length co39, v274, v277, gb280) _ ⟨hHeld, (by (with_reducible repeat (first | apply Kd.S_alloc | apply Kd.S_drewN | apply Kd.S_drew)); exact HO256.out), (by (with_reducible repeat (first | apply Kd.S_alloc | apply Kd.S_drewN | apply Kd.S_drew)); exact HO263.out), (by (with_reducible repeat (first | apply Kd.S_alloc | apply Kd.S_drewN | apply Kd.S_drew)); exact Kd.S_mono HO271.out (fun _ hk => hk.2)), (by (with_reducible repeat (first | apply Kd.S_alloc | apply Kd.S_drewN | apply Kd.S_drew)); exact Kd.S_mono HO275.out (fun _ hk => hk.2)), (R1_ HO278.out), (B1_ BK259.out), (B1_ BK260.out), (B1_ BK266.out), (B1_ BK267.out), (B1_ BK280.out), GW280.out, GE280.out, NB259_280.out, NB280_259.out, NB260_280.out, NB280_260.out, NB266_280.out, NB280_266.out, NB267_280.out, NB280_267.out, W2_⟩)
             ·
              skip
              refine box_step ?hg (N := 5) ?hd (cs := #[.int .i64 0, .slice none 0 0]) (t := 44) ?hr ?_; (case hd | hg => rfl); (case hr => exact S1_)
              intro gb280 hg w37 hbox hb
              have n0_ := Aside0.mk (Kd.S_below (by (with_reducible repeat (first | apply Kd.S_alloc | apply Kd.S_drewN | apply Kd.S_drew)); exact HO256.out) hb)
              have n1_ := Aside0.mk (Kd.S_below (by (with_reducible repeat (first | apply Kd.S_alloc | apply Kd.S_drewN | apply Kd.S_drew)); exact HO263.out) hb)
              have n2_ := Aside0.mk (blk_below (B1_ BK259.out) hb)
              have n3_ := Aside0.mk (blk_below (B1_ BK260.out) hb)
              have n4_ := Aside0.mk (blk_below (B1_ BK266.out) hb)
              have n5_ := Aside0.mk (blk_below (B1_ BK267.out) hb)
              have n6_ := Aside0.mk (below_step W2_ hb)
              have n7_ := Aside0.mk (hbox)
              have n8_ := Aside0.mk ((Z2_ : w.heap.size ≤ gb280))
              have n9_ := Aside0.mk ((Z2_ : w.heap.size ≤ gb280))
              have n10_ := Aside0.mk ((by rw [hg]; exact Nat.ne_of_lt (blk_lt (B1_ BK259.out)) : gb259 ≠ gb280))
              have n11_ := Aside0.mk ((by rw [hg]; exact Nat.ne_of_gt (blk_lt (B1_ BK259.out)) : gb280 ≠ gb259))
              have n12_ := Aside0.mk ((by rw [hg]; exact Nat.ne_of_lt (blk_lt (B1_ BK260.out)) : gb260 ≠ gb280))
              have n13_ := Aside0.mk ((by rw [hg]; exact Nat.ne_of_gt (blk_lt (B1_ BK260.out)) : gb280 ≠ gb260))
              have n14_ := Aside0.mk ((by rw [hg]; exact Nat.ne_of_lt (blk_lt (B1_ BK266.out)) : gb266 ≠ gb280))
              have n15_ := Aside0.mk ((by rw [hg]; exact Nat.ne_of_gt (blk_lt (B1_ BK266.out)) : gb280 ≠ gb266))
              have n16_ := Aside0.mk ((by rw [hg]; exact Nat.ne_of_lt (blk_lt (B1_ BK267.out)) : gb267 ≠ gb280))
              have n17_ := Aside0.mk ((by rw [hg]; exact Nat.ne_of_gt (blk_lt (B1_ BK267.out)) : gb280 ≠ gb267))
              clear HO256
              clear HO263
              clear BK259
              clear BK260
              clear BK266
              clear BK267
              clear HB
              have HO256 := n0_
              have HO263 := n1_
              have BK259 := n2_
              have BK260 := n3_
              have BK266 := n4_
              have BK267 := n5_
              have HB := n6_
              have BK280 := n7_
              have GW280 := n8_
              have GE280 := n9_
              have NB259_280 := n10_
              have NB280_259 := n11_
              have NB260_280 := n12_
              have NB280_260 := n13_
              have NB266_280 := n14_
              have NB280_266 := n15_
              have NB267_280 := n16_
              have NB280_267 := n17_
              clear n0_ n1_ n2_ n3_ n4_ n5_ n6_ n7_ n8_ n9_ n10_ n11_ n12_ n13_ n14_ n15_ n16_ n17_
              clear hb hbox hg
              refine hK.out _ _ (xC_ BK259.out 0) (fun hHeld => ?_)
              clear hK K
              refine norm_ (a' := ?_) ?_ ?_
              rotate_left
              ·
               show Act.put _ (some 5) _ = _
               simp only [Act.put, sA_, sZ_, sS_, i64_w, i32_w]
               rfl
              refine one_ (i := 0) (N := some 20) #[true, true, false, false, false, false, false, true, false, false, false] rfl rfl (one_of HT_.out (by kernel_rfl)) (by decide) (fun K hK => ?_)
              refine goes_ Tryz.func30 (by kernel_rfl) rfl #[] (by rfl) rfl rfl T1_ ?_
              with_reducible refine (plan_First.calls  t268 t269 _ A3.out).mono ?_
              rintro e w38 ⟨v270, rfl, ho0, hb⟩
              refine ⟨_, rfl, ?_⟩
              have n0_ := Aside0.mk (Kd.S_below (by (with_reducible repeat (first | apply Kd.S_alloc | apply Kd.S_drewN | apply Kd.S_drew)); exact HO256.out) hb)
              have n1_ := Aside0.mk (Kd.S_below (by (with_reducible repeat (first | apply Kd.S_alloc | apply Kd.S_drewN | apply Kd.S_drew)); exact HO263.out) hb)
              have n2_ := Aside0.mk (Kd.S_lower ho0 (below_size W2_))
              have n3_ := Aside0.mk (blk_below (B1_ BK259.out) hb)
              have n4_ := Aside0.mk (blk_below (B1_ BK260.out) hb)
              have n5_ := Aside0.mk (blk_below (B1_ BK266.out) hb)
              have n6_ := Aside0.mk (blk_below (B1_ BK267.out) hb)
              have n7_ := Aside0.mk (blk_below (B1_ BK280.out) hb)
              have n8_ := Aside0.mk (below_step W2_ hb)
              clear HO256
              clear HO263
              clear BK259
              clear BK260
              clear BK266
              clear BK267
              clear BK280
              clear HB
              have HO256 := n0_
              have HO263 := n1_
              have HO271 := n2_
              have BK259 := n3_
              have BK260 := n4_
              have BK266 := n5_
              have BK267 := n6_
              have BK280 := n7_
              have HB := n8_
              clear n0_ n1_ n2_ n3_ n4_ n5_ n6_ n7_ n8_
              (try clear hb)
              (try clear hb2)
              (try clear hk)
              (try clear hi)
              (try clear ho0)
              obtain ⟨Ao39, co39, eo39⟩ := Kd.S_slice HO271.out
              (first | subst eo39 | (injection eo39 with f1_ f2_ f3_; have f4_ := f1_.symm; have f5_ := f3_.symm; clear f1_ f2_ f3_; subst f4_; subst f5_))
              refine hK.out _ _ (xC_ BK259.out 0) (fun hHeld => ?_)
              clear hK K
              refine norm_ (a' := ?_) ?_ ?_
              rotate_left
              ·
               show Act.put _ (some 20) _ = _
               simp only [Act.put, sA_, sZ_, sS_, i64_w, i32_w]
               rfl
              refine one_ (i := 2) (N := some 22) #[true, true, true, false, false, false, false, true, false, false, false] rfl rfl (one_of HT_.out (by kernel_rfl)) (by decide) (fun K hK => ?_)
              refine goes_ Tryz.func18 (by kernel_rfl) rfl #[.agg #[.int .i64 t268, .slice Ao39 t269.length co39], .agg #[.slice Ao20 t254.length co20]] (by rfl) rfl rfl T1_ ?_
              with_reducible refine (plan_Table_Next.calls k t268 _ _ t269 _ _ t254 t272 t273 t276 t279 _ ?side1 ?side2 ?side3 ?side4 A4.out).mono ?_
              (case side1 => exact C1_ ((Kd.S_reads' HO271.out).2.2))
              (case side2 => exact (Kd.S_reads' HO271.out).2.1)
              (case side3 => exact C1_ ((Kd.S_reads' HO256.out).2.2))
              (case side4 => exact (Kd.S_reads' HO256.out).2.1)
              rintro e w40 ⟨v274, v277, rfl, ho0, ho1, hb⟩
              refine ⟨_, rfl, ?_⟩
              have n0_ := Aside0.mk (Kd.S_below (by (with_reducible repeat (first | apply Kd.S_alloc | apply Kd.S_drewN | apply Kd.S_drew)); exact HO256.out) hb)
              have n1_ := Aside0.mk (Kd.S_below (by (with_reducible repeat (first | apply Kd.S_alloc | apply Kd.S_drewN | apply Kd.S_drew)); exact HO263.out) hb)
              have n2_ := Aside0.mk (Kd.S_elder' (by (with_reducible repeat (first | apply Kd.S_alloc | apply Kd.S_drewN | apply Kd.S_drew)); exact HO271.out) (Kd.S_base ho0) hb)
              have n3_ := Aside0.mk (Kd.S_lower (Kd.S_new' ho0 (Kd.S_lt (by (with_reducible repeat (first | apply Kd.S_alloc | apply Kd.S_drewN | apply Kd.S_drew)); exact HO271.out))) (below_size W2_))
              have n4_ := Aside0.mk (Kd.R_lower ho1 (below_size W2_))
              have n5_ := Aside0.mk (blk_below (B1_ BK259.out) hb)
              have n6_ := Aside0.mk (blk_below (B1_ BK260.out) hb)
              have n7_ := Aside0.mk (blk_below (B1_ BK266.out) hb)
              have n8_ := Aside0.mk (blk_below (B1_ BK267.out) hb)
              have n9_ := Aside0.mk (blk_below (B1_ BK280.out) hb)
              have n10_ := Aside0.mk (below_step W2_ hb)
              clear HO256
              clear HO263
              clear HO271
              clear BK259
              clear BK260
              clear BK266
              clear BK267
              clear BK280
              clear HB
              have HO256 := n0_
              have HO263 := n1_
              have HO271 := n2_
              have HO275 := n3_
              have HO278 := n4_
              have BK259 := n5_
              have BK260 := n6_
              have BK266 := n7_
              have BK267 := n8_
              have BK280 := n9_
              have HB := n10_
              clear n0_ n1_ n2_ n3_ n4_ n5_ n6_ n7_ n8_ n9_ n10_
              (try clear hb)
              (try clear hb2)
              (try clear hk)
              (try clear hi)
              (try clear ho0)
              (try clear ho1)
              refine hK.out _ _ (xC_ BK259.out 0) (fun hHeld => ?_)
              clear hK K
              refine norm_ (a' := ?_) ?_ ?_
              rotate_left
              ·
               show Act.put _ (some 22) _ = _
               simp only [Act.put, sA_, sZ_, sS_, i64_w, i32_w]
               rfl
              refine pure_ (i := 3) (N := some 19) (v := ?_) (a' := ?_) #[true, true, true, true, false, false, false, true, false, false, false] rfl rfl (any_of HT_.out (by kernel_rfl)) (fun _ _ _ h => h) (Or.inl ⟨by rfl, ?_⟩) ?_ ?_
              rotate_left
              ·
               intro w'
               go_simp
               with_reducible rfl
              rotate_left
              ·
               simp only [Act.put, sA_, sZ_, sS_, i64_w, i32_w]
               rfl
              refine pure_ (i := 4) (N := some 23) (v := ?_) (a' := ?_) #[true, true, true, true, true, false, false, true, false, false, false] rfl rfl (any_of HT_.out (by kernel_rfl)) (fun _ _ _ h => h) (Or.inl ⟨by rfl, ?_⟩) ?_ ?_
              rotate_left
              ·
               intro w'
               go_simp
               with_reducible rfl
              rotate_left
              ·
               simp only [Act.put, sA_, sZ_, sS_, i64_w, i32_w]
               rfl
              refine pure_ (i := 5) (N := some 24) (v := ?_) (a' := ?_) #[true, true, true, true, true, true, false, true, false, false, false] rfl rfl (any_of HT_.out (by kernel_rfl)) (fun _ _ _ h => h) (Or.inl ⟨by rfl, ?_⟩) ?_ ?_
              rotate_left
              ·
               intro w'
               go_simp
               with_reducible rfl
              rotate_left
              ·
               simp only [Act.put, sA_, sZ_, sS_, i64_w, i32_w]
               rfl
              refine pure_ (i := 6) (N := some 25) (v := ?_) (a' := ?_) #[true, true, true, true, true, true, true, true, false, false, false] rfl rfl (any_of HT_.out (by kernel_rfl)) (fun _ _ _ h => h) (Or.inl ⟨by rfl, ?_⟩) ?_ ?_
              rotate_left
              ·
               intro w'
               go_simp
               with_reducible rfl
              rotate_left
              ·
               simp only [Act.put, sA_, sZ_, sS_, i64_w, i32_w]
               rfl
              exact norm_ (by simp only [putAll, Act.put, sA_, sZ_, sS_]) (hCont (.slice Ao39 t269.length co39, v274, v277, gb280) _ ⟨hHeld, (by (with_reducible repeat (first | apply Kd.S_alloc | apply Kd.S_drewN | apply Kd.S_drew)); exact HO256.out), (by (with_reducible repeat (first | apply Kd.S_alloc | apply Kd.S_drewN | apply Kd.S_drew)); exact HO263.out), (by (with_reducible repeat (first | apply Kd.S_alloc | apply Kd.S_drewN | apply Kd.S_drew)); exact Kd.S_mono HO271.out (fun _ hk => hk.2)), (by (with_reducible repeat (first | apply Kd.S_alloc | apply Kd.S_drewN | apply Kd.S_drew)); exact Kd.S_mono HO275.out (fun _ hk => hk.2)), (R1_ HO278.out), (B1_ BK259.out), (B1_ BK260.out), (B1_ BK266.out), (B1_ BK267.out), (B1_ BK280.out), GW280.out, GE280.out, NB259_280.out, NB280_259.out, NB260_280.out, NB280_260.out, NB266_280.out, NB280_266.out, NB267_280.out, NB280_267.out, W2_⟩)
            rintro ⟨v270, v274, v277, gb280⟩ w41 ⟨hS_, h0_, h1_, h2_, h3_, h4_, h5_, h6_, h7_, h8_, h9_, h10_, h11_, h12_, h13_, h14_, h15_, h16_, h17_, h18_, h19_, h20_⟩
            have n0_ : Aside0 (Kd.S k57 57 w41 w.heap.size (fun k_ => some k_ ≠ (.slice Ao27 t261.length co27 : Value).ownBlock) (.slice Ao20 t254.length co20) t254) := ⟨h0_⟩
            have n1_ : Aside0 (Kd.S k57 57 w41 w.heap.size (fun k_ => some k_ ≠ (.slice Ao20 t254.length co20 : Value).ownBlock) (.slice Ao27 t261.length co27) t261) := ⟨h1_⟩
            have n2_ : Aside0 (Kd.S k59 59 w41 w.heap.size (fun k_ => some k_ ≠ (v274 : Value).ownBlock) v270 t269) := ⟨h2_⟩
            have n3_ : Aside0 (Kd.S k59 59 w41 w.heap.size (fun k_ => some k_ ≠ (v270 : Value).ownBlock) v274 t273) := ⟨h3_⟩
            have n4_ : Aside0 (Kd.R k40 40 w41 w.heap.size (fun _ => True) v277 t276) := ⟨h4_⟩
            have n5_ : Aside0 (w41.heap[gb259]? = some (.cells #[.slice Ao20 t254.length co20] 24 (0, 0))) := ⟨h5_⟩
            have n6_ : Aside0 (w41.heap[gb260]? = some (.cells #[.int .i64 t257, .int .i64 t258] 79 (0, 0))) := ⟨h6_⟩
            have n7_ : Aside0 (w41.heap[gb266]? = some (.cells #[.slice Ao27 t261.length co27] 24 (0, 0))) := ⟨h7_⟩
            have n8_ : Aside0 (w41.heap[gb267]? = some (.cells #[.int .i64 t264, .int .i64 t265] 79 (0, 0))) := ⟨h8_⟩
            have n9_ : Aside0 (w41.heap[gb280]? = some (.cells #[.int .i64 0, .slice none 0 0] 44 (0, 0))) := ⟨h9_⟩
            have n10_ : Aside0 (w.heap.size ≤ gb280) := ⟨h10_⟩
            have n11_ : Aside0 (w.heap.size ≤ gb280) := ⟨h11_⟩
            have n12_ : Aside0 (gb259 ≠ gb280) := ⟨h12_⟩
            have n13_ : Aside0 (gb280 ≠ gb259) := ⟨h13_⟩
            have n14_ : Aside0 (gb260 ≠ gb280) := ⟨h14_⟩
            have n15_ : Aside0 (gb280 ≠ gb260) := ⟨h15_⟩
            have n16_ : Aside0 (gb266 ≠ gb280) := ⟨h16_⟩
            have n17_ : Aside0 (gb280 ≠ gb266) := ⟨h17_⟩
            have n18_ : Aside0 (gb267 ≠ gb280) := ⟨h18_⟩
            have n19_ : Aside0 (gb280 ≠ gb267) := ⟨h19_⟩
            have n20_ : Aside0 (Below w.heap.size w w41) := ⟨h20_⟩
            clear HO256
            clear HO263
            clear BK259
            clear BK260
            clear BK266
            clear BK267
            clear HB
            clear h0_ h1_ h2_ h3_ h4_ h5_ h6_ h7_ h8_ h9_ h10_ h11_ h12_ h13_ h14_ h15_ h16_ h17_ h18_ h19_ h20_
            have HO256 := n0_
            have HO263 := n1_
            have HO271 := n2_
            have HO275 := n3_
            have HO278 := n4_
            have BK259 := n5_
            have BK260 := n6_
            have BK266 := n7_
            have BK267 := n8_
            have BK280 := n9_
            have GW280 := n10_
            have GE280 := n11_
            have NB259_280 := n12_
            have NB280_259 := n13_
            have NB260_280 := n14_
            have NB280_260 := n15_
            have NB266_280 := n16_
            have NB280_266 := n17_
            have NB267_280 := n18_
            have NB280_267 := n19_
            have HB := n20_
            clear n0_ n1_ n2_ n3_ n4_ n5_ n6_ n7_ n8_ n9_ n10_ n11_ n12_ n13_ n14_ n15_ n16_ n17_ n18_ n19_ n20_
            have hHeld : w41.cell? ⟨gb259, 0, none⟩ = some (.slice Ao20 t254.length co20) := hS_
            obtain ⟨Ao43, co43, eo43⟩ := Kd.S_slice HO275.out
            (first | subst eo43 | (injection eo43 with f1_ f2_ f3_; have f4_ := f1_.symm; have f5_ := f3_.symm; clear f1_ f2_ f3_; subst f4_; subst f5_))
            refine norm_ (a' := ?_) ?_ ?_
            rotate_left
            ·
             simp only [putAll, Act.put, sA_, sZ_, sS_]
             rfl
            refine one_ (i := 8) (N := none) #[true, true, true, true, true, true, true, true, true, false, false] rfl rfl (one_of HT_.out (by kernel_rfl)) (by decide) (fun K hK => ?_)
            have hs42 : w41.cell? ⟨gb280, 0, none⟩ = some (.int .i64 0) := xC_ BK280.out 0
            have hfs42 := blk_frozen BK280.out 0
            have hns42_0 := NB259_280.out
            have hns42_1 := NB260_280.out
            have hns42_2 := NB266_280.out
            have hns42_3 := NB267_280.out
            have hms42_0 := NB280_259.out
            have hms42_1 := NB280_260.out
            have hms42_2 := NB280_266.out
            have hms42_3 := NB280_267.out
            have hs44 : w41.cell? ⟨gb280, 1, none⟩ = some (.slice none 0 0) := xC_ BK280.out 1
            have hfs44 := blk_frozen BK280.out 1
            have hns44_0 := NB259_280.out
            have hns44_1 := NB260_280.out
            have hns44_2 := NB266_280.out
            have hns44_3 := NB267_280.out
            have hms44_0 := NB280_259.out
            have hms44_1 := NB280_260.out
            have hms44_2 := NB280_266.out
            have hms44_3 := NB280_267.out
            refine skip_ (w1 := ?_) (by rfl) rfl ?_ ?_
            rotate_left
            ·
             go_simp
             rfl
            refine hK.out _ _ (((cell_far (p := ⟨gb280, _, none⟩) NB259_280.out _).trans (((cell_far (p := ⟨gb280, _, none⟩) NB259_280.out _).trans (hHeld))))) (fun hHeld => ?_)
            clear hK K
            refine pure_ (i := 9) (N := some 6) (v := ?_) (a' := ?_) #[true, true, true, true, true, true, true, true, true, true, false] rfl rfl (any_of HT_.out (by kernel_rfl)) (fun _ _ _ h => h) (Or.inl ⟨by rfl, ?_⟩) ?_ ?_
            rotate_left
            ·
             intro w'
             go_simp
             with_reducible rfl
            rotate_left
            ·
             simp only [Act.put, sA_, sZ_, sS_, i64_w, i32_w]
             rfl
            refine pure_ (i := 10) (N := some 7) (v := ?_) (a' := ?_) #[true, true, true, true, true, true, true, true, true, true, true] rfl rfl (any_of HT_.out (by kernel_rfl)) (fun _ _ _ h => h) (Or.inl ⟨by rfl, ?_⟩) ?_ ?_
            rotate_left
            ·
             intro w'
             go_simp
             with_reducible rfl
            rotate_left
            ·
             simp only [Act.put, sA_, sZ_, sS_, i64_w, i32_w]
             rfl
            refine done_ (done_of HT_.out (by kernel_rfl)) ?_
            have hnb45 := NB280_259.out
            have hnc45 := NB259_280.out
            have hnb46 := NB280_260.out
            have hnc46 := NB260_280.out
            have hnb47 := NB280_266.out
            have hnc47 := NB266_280.out
            have hnb48 := NB280_267.out
            have hnc48 := NB267_280.out
            obtain ⟨z49_0, z49_1, y49_0, y49_1⟩ := cz2_ BK280.out
            obtain ⟨z50_0, y50_0⟩ := cz1_ BK266.out
            try go_wp2_with (first | ((with_reducible refine gate_callee (f := 18) rfl ?_); refine goesL_ (some 29) rfl rfl Tryz.func18 (by kernel_rfl) rfl #[.agg #[.int .i64 t272, .slice Ao43 t273.length co43], .agg #[.slice Ao27 t261.length co27]] rfl T1_ ?_; (with_reducible refine (plan_Table_Next.calls k t272 _ _ t273 _ _ t261 t281 t282 t285 t288 _ ?side1 ?side2 ?side3 ?side4 A5.out).mono ?_); (case side1 => refine (Kd.S_reads' (e := 59) (base := w.heap.size) (ok := fun k_ => some k_ ≠ (v270 : Value).ownBlock) (n := t273.length) (c := co43) ?_).2.2; exact (by (with_reducible repeat (first | apply Kd.S_alloc | apply Kd.S_drewN | apply Kd.S_drew)); exact (Kd.S_mono (Kd.S_far (p := ⟨gb280, 1, none⟩) (Kd.S_far (p := ⟨gb280, 0, none⟩) (Kd.S_types HO275.out BK280.out (by decide)) (fun _ hk => hk.2) (.int .i64 t272)) (fun _ hk => hk.2) (.slice Ao43 t273.length co43)) (fun _ h_ => h_.1)))); (case side2 => exact (Kd.S_reads' HO275.out).2.1); (case side3 => refine (Kd.S_reads' (e := 57) (base := w.heap.size) (ok := fun k_ => some k_ ≠ (.slice Ao20 t254.length co20 : Value).ownBlock) (n := t261.length) (c := co27) ?_).2.2; exact (by (with_reducible repeat (first | apply Kd.S_alloc | apply Kd.S_drewN | apply Kd.S_drew)); exact (Kd.S_mono (Kd.S_far (p := ⟨gb280, 1, none⟩) (Kd.S_far (p := ⟨gb280, 0, none⟩) (Kd.S_types HO263.out BK280.out (by decide)) (fun _ hk => hk.2) (.int .i64 t272)) (fun _ hk => hk.2) (.slice Ao43 t273.length co43)) (fun _ h_ => h_.1)))); (case side4 => exact (Kd.S_reads' HO263.out).2.1); rintro e w51 ⟨v283, v286, rfl, ho0, ho1, hb⟩; refine ⟨_, rfl, ?_⟩; have HO284 := Aside0.mk (Kd.S_lower (Kd.S_new' (Kd.S_new' ho0 (Kd.S_lt (by (with_reducible repeat (first | apply Kd.S_alloc | apply Kd.S_drewN | apply Kd.S_drew)); exact (Kd.S_mono (Kd.S_far (p := ⟨gb280, 1, none⟩) (Kd.S_far (p := ⟨gb280, 0, none⟩) (Kd.S_types HO271.out BK280.out (by decide)) (fun _ hk => hk.2) (.int .i64 t272)) (fun _ hk => hk.2) (.slice Ao43 t273.length co43)) (fun _ h_ => h_.1))))) (Kd.S_lt (by (with_reducible repeat (first | apply Kd.S_alloc | apply Kd.S_drewN | apply Kd.S_drew)); exact (Kd.S_mono (Kd.S_far (p := ⟨gb280, 1, none⟩) (Kd.S_far (p := ⟨gb280, 0, none⟩) (Kd.S_types HO275.out BK280.out (by decide)) (fun _ hk => hk.2) (.int .i64 t272)) (fun _ hk => hk.2) (.slice Ao43 t273.length co43)) (fun _ h_ => h_.1))))) (below_size W2_)); have HO287 := Aside0.mk (Kd.R_lower (Kd.R_new' ho1 (Kd.R_lt (by refine R1_ ?_; exact (Kd.R_mono (Kd.R_far (p := ⟨gb280, 1, none⟩) (Kd.R_far (p := ⟨gb280, 0, none⟩) (Kd.R_types HO278.out BK280.out (by decide)) (fun _ hk => hk.2) (.int .i64 t272)) (fun _ hk => hk.2) (.slice Ao43 t273.length co43)) (fun _ h_ => h_.1))))) (below_size W2_)); replace HO256 := Aside0.mk (Kd.S_below (by (with_reducible repeat (first | apply Kd.S_alloc | apply Kd.S_drewN | apply Kd.S_drew)); exact (Kd.S_mono (Kd.S_far (p := ⟨gb280, 1, none⟩) (Kd.S_far (p := ⟨gb280, 0, none⟩) (Kd.S_types HO256.out BK280.out (by decide)) (fun _ hk => hk.2) (.int .i64 t272)) (fun _ hk => hk.2) (.slice Ao43 t273.length co43)) (fun _ h_ => h_.1))) hb); replace HO263 := Aside0.mk (Kd.S_below (by (with_reducible repeat (first | apply Kd.S_alloc | apply Kd.S_drewN | apply Kd.S_drew)); exact (Kd.S_mono (Kd.S_far (p := ⟨gb280, 1, none⟩) (Kd.S_far (p := ⟨gb280, 0, none⟩) (Kd.S_types HO263.out BK280.out (by decide)) (fun _ hk => hk.2) (.int .i64 t272)) (fun _ hk => hk.2) (.slice Ao43 t273.length co43)) (fun _ h_ => h_.1))) hb); replace HO271 := Aside0.mk (Kd.S_elder' (by (with_reducible repeat (first | apply Kd.S_alloc | apply Kd.S_drewN | apply Kd.S_drew)); exact (Kd.S_mono (Kd.S_far (p := ⟨gb280, 1, none⟩) (Kd.S_far (p := ⟨gb280, 0, none⟩) (Kd.S_types HO271.out BK280.out (by decide)) (fun _ hk => hk.2) (.int .i64 t272)) (fun _ hk => hk.2) (.slice Ao43 t273.length co43)) (fun _ h_ => h_.1))) (Kd.S_base ho0) hb); replace HO275 := Aside0.mk (Kd.S_elder' (by (with_reducible repeat (first | apply Kd.S_alloc | apply Kd.S_drewN | apply Kd.S_drew)); exact (Kd.S_mono (Kd.S_far (p := ⟨gb280, 1, none⟩) (Kd.S_far (p := ⟨gb280, 0, none⟩) (Kd.S_types HO275.out BK280.out (by decide)) (fun _ hk => hk.2) (.int .i64 t272)) (fun _ hk => hk.2) (.slice Ao43 t273.length co43)) (fun _ h_ => h_.1))) (Kd.S_base ho0) hb); replace HO278 := Aside0.mk (Kd.R_elder' (by refine R1_ ?_; exact (Kd.R_mono (Kd.R_far (p := ⟨gb280, 1, none⟩) (Kd.R_far (p := ⟨gb280, 0, none⟩) (Kd.R_types HO278.out BK280.out (by decide)) (fun _ hk => hk.2) (.int .i64 t272)) (fun _ hk => hk.2) (.slice Ao43 t273.length co43)) (fun _ h_ => h_.1))) (Kd.R_base ho1) hb); replace BK259 := Aside0.mk (blk_below (g := gb259) (o := .cells #[.slice Ao20 t254.length co20] 24 (0, 0)) (G1_ BK259.out) hb); replace BK260 := Aside0.mk (blk_below (g := gb260) (o := .cells #[.int .i64 t257, .int .i64 t258] 79 (0, 0)) (G1_ BK260.out) hb); replace BK266 := Aside0.mk (blk_below (g := gb266) (o := .cells #[.slice Ao27 t261.length co27] 24 (0, 0)) (G1_ BK266.out) hb); replace BK267 := Aside0.mk (blk_below (g := gb267) (o := .cells #[.int .i64 t264, .int .i64 t265] 79 (0, 0)) (G1_ BK267.out) hb); replace BK280 := Aside0.mk (blk_below (g := gb280) (o := .cells #[.int .i64 t272, .slice Ao43 t273.length co43] 44 (0, 0)) (G1_ BK280.out) hb); replace HB := y2_ hb; (try clear hb); (try clear hk); (try clear ho0); (try clear ho1)) | ((with_reducible refine gate_dst (N := 8) rfl ?_); (try (refine gate_guard (by rfl) ?_; dsimp only)); refine box_event ?hg (N := 8) ?hd (cs := #[.int .i64 0, .slice none 0 0]) (t := 44) ?hr ?_; (case hd | hg => rfl); (case hr => exact S1_); intro gb289 hg w52 hbox hb; have BK289 := Aside0.mk (hbox); have GW289 := Aside0.mk ((Z2_ : w.heap.size ≤ gb289)); have GE289 := Aside0.mk ((Z2_ : w.heap.size ≤ gb289)); have NB259_289 := Aside0.mk ((by rw [hg]; exact Nat.ne_of_lt (blk_lt (B1_ BK259.out)) : gb259 ≠ gb289)); have NB289_259 := Aside0.mk ((by rw [hg]; exact Nat.ne_of_gt (blk_lt (B1_ BK259.out)) : gb289 ≠ gb259)); have NB260_289 := Aside0.mk ((by rw [hg]; exact Nat.ne_of_lt (blk_lt (B1_ BK260.out)) : gb260 ≠ gb289)); have NB289_260 := Aside0.mk ((by rw [hg]; exact Nat.ne_of_gt (blk_lt (B1_ BK260.out)) : gb289 ≠ gb260)); have NB266_289 := Aside0.mk ((by rw [hg]; exact Nat.ne_of_lt (blk_lt (B1_ BK266.out)) : gb266 ≠ gb289)); have NB289_266 := Aside0.mk ((by rw [hg]; exact Nat.ne_of_gt (blk_lt (B1_ BK266.out)) : gb289 ≠ gb266)); have NB267_289 := Aside0.mk ((by rw [hg]; exact Nat.ne_of_lt (blk_lt (B1_ BK267.out)) : gb267 ≠ gb289)); have NB289_267 := Aside0.mk ((by rw [hg]; exact Nat.ne_of_gt (blk_lt (B1_ BK267.out)) : gb289 ≠ gb267)); have NB280_289 := Aside0.mk ((by rw [hg]; exact Nat.ne_of_lt (blk_lt (B1_ BK280.out)) : gb280 ≠ gb289)); have NB289_280 := Aside0.mk ((by rw [hg]; exact Nat.ne_of_gt (blk_lt (B1_ BK280.out)) : gb289 ≠ gb280)); replace HO256 := Aside0.mk (Kd.S_below (by (with_reducible repeat (first | apply Kd.S_alloc | apply Kd.S_drewN | apply Kd.S_drew)); exact HO256.out) hb); replace HO263 := Aside0.mk (Kd.S_below (by (with_reducible repeat (first | apply Kd.S_alloc | apply Kd.S_drewN | apply Kd.S_drew)); exact HO263.out) hb); replace HO271 := Aside0.mk (Kd.S_below (by (with_reducible repeat (first | apply Kd.S_alloc | apply Kd.S_drewN | apply Kd.S_drew)); exact HO271.out) hb); replace HO275 := Aside0.mk (Kd.S_below (by (with_reducible repeat (first | apply Kd.S_alloc | apply Kd.S_drewN | apply Kd.S_drew)); exact HO275.out) hb); replace HO278 := Aside0.mk (Kd.R_below (R1_ HO278.out) hb); replace HO284 := Aside0.mk (Kd.S_below (by (with_reducible repeat (first | apply Kd.S_alloc | apply Kd.S_drewN | apply Kd.S_drew)); exact HO284.out) hb); replace HO287 := Aside0.mk (Kd.R_below (R1_ HO287.out) hb); replace BK259 := yB_ BK259 hb; replace BK260 := yB_ BK260 hb; replace BK266 := yB_ BK266 hb; replace BK267 := yB_ BK267 hb; replace BK280 := yB_ BK280 hb; replace HB := y2_ hb; clear hb hbox hg; have hnb53 := NB289_259.out; have hnc53 := NB259_289.out; have hnb54 := NB289_260.out; have hnc54 := NB260_289.out; have hnb55 := NB289_266.out; have hnc55 := NB266_289.out; have hnb56 := NB289_267.out; have hnc56 := NB267_289.out; have hnb57 := NB289_280.out; have hnc57 := NB280_289.out; obtain ⟨z58_0, z58_1, y58_0, y58_1⟩ := cz2_ BK289.out; obtain ⟨Ao59, co59, eo59⟩ := Kd.S_slice HO284.out; subst eo59) | ((with_reducible refine gate_store (t := 44) (p := 8) rfl ?_); refine store_event (t := 44) (p := 8) (v := ?vo_w60) (w1 := ((w52.setCell ⟨gb289, 0, none⟩ (.int .i64 t281)).setCell ⟨gb289, 1, none⟩ (.slice Ao59 t282.length co59))) ?hg ?ho ?hn ?hr ?_; (case ho => rfl); (case hg => rfl); (case hn => rfl); (case hr => first | (go_simp; done) | (go_simp; rfl)); intro w60 hw; have n0_ : Aside0 (Kd.S k57 57 w60 w.heap.size (fun k_ => some k_ ≠ (.slice Ao27 t261.length co27 : Value).ownBlock) (.slice Ao20 t254.length co20) t254) := ⟨(by rw [hw]; exact (by (with_reducible repeat (first | apply Kd.S_alloc | apply Kd.S_drewN | apply Kd.S_drew)); exact Kd.S_mono (Kd.S_far (p := ⟨gb289, 1, none⟩) (Kd.S_far (p := ⟨gb289, 0, none⟩) (Kd.S_types HO256.out BK289.out (by decide)) (fun _ hk => hk.2) (.int .i64 t281)) (fun _ hk => hk.2) (.slice Ao59 t282.length co59)) (fun _ hk => hk.1)))⟩; have n1_ : Aside0 (Kd.S k57 57 w60 w.heap.size (fun k_ => some k_ ≠ (.slice Ao20 t254.length co20 : Value).ownBlock) (.slice Ao27 t261.length co27) t261) := ⟨(by rw [hw]; exact (by (with_reducible repeat (first | apply Kd.S_alloc | apply Kd.S_drewN | apply Kd.S_drew)); exact Kd.S_mono (Kd.S_far (p := ⟨gb289, 1, none⟩) (Kd.S_far (p := ⟨gb289, 0, none⟩) (Kd.S_types HO263.out BK289.out (by decide)) (fun _ hk => hk.2) (.int .i64 t281)) (fun _ hk => hk.2) (.slice Ao59 t282.length co59)) (fun _ hk => hk.1)))⟩; have n2_ : Aside0 (Kd.S k59 59 w60 w.heap.size (fun k_ => some k_ ≠ (.slice Ao43 t273.length co43 : Value).ownBlock ∧ some k_ ≠ (.slice Ao59 t282.length co59 : Value).ownBlock) v270 t269) := ⟨(by rw [hw]; exact (by (with_reducible repeat (first | apply Kd.S_alloc | apply Kd.S_drewN | apply Kd.S_drew)); exact Kd.S_mono (Kd.S_far (p := ⟨gb289, 1, none⟩) (Kd.S_far (p := ⟨gb289, 0, none⟩) (Kd.S_types HO271.out BK289.out (by decide)) (fun _ hk => hk.2) (.int .i64 t281)) (fun _ hk => hk.2) (.slice Ao59 t282.length co59)) (fun _ hk => by first | exact ⟨hk.1.1, hk.1.2⟩ | simp_all)))⟩; have n3_ : Aside0 (Kd.S k59 59 w60 w.heap.size (fun k_ => some k_ ≠ (v270 : Value).ownBlock ∧ some k_ ≠ (.slice Ao59 t282.length co59 : Value).ownBlock) (.slice Ao43 t273.length co43) t273) := ⟨(by rw [hw]; exact (by (with_reducible repeat (first | apply Kd.S_alloc | apply Kd.S_drewN | apply Kd.S_drew)); exact Kd.S_mono (Kd.S_far (p := ⟨gb289, 1, none⟩) (Kd.S_far (p := ⟨gb289, 0, none⟩) (Kd.S_types HO275.out BK289.out (by decide)) (fun _ hk => hk.2) (.int .i64 t281)) (fun _ hk => hk.2) (.slice Ao59 t282.length co59)) (fun _ hk => by first | exact ⟨hk.1.1, hk.1.2⟩ | simp_all)))⟩; have n4_ : Aside0 (Kd.R k40 40 w60 w.heap.size (fun k_ => some k_ ≠ (v286 : Value).ownBlock) v277 t276) := ⟨(by rw [hw]; exact (by refine R1_ ?_; exact Kd.R_mono (Kd.R_far (p := ⟨gb289, 1, none⟩) (Kd.R_far (p := ⟨gb289, 0, none⟩) (Kd.R_types HO278.out BK289.out (by decide)) (fun _ hk => hk.2) (.int .i64 t281)) (fun _ hk => hk.2) (.slice Ao59 t282.length co59)) (fun _ hk => hk.1.2)))⟩; have n5_ : Aside0 (Kd.S k59 59 w60 w.heap.size (fun k_ => some k_ ≠ (v270 : Value).ownBlock ∧ some k_ ≠ (.slice Ao43 t273.length co43 : Value).ownBlock) (.slice Ao59 t282.length co59) t282) := ⟨(by rw [hw]; exact (by (with_reducible repeat (first | apply Kd.S_alloc | apply Kd.S_drewN | apply Kd.S_drew)); exact Kd.S_mono (Kd.S_far (p := ⟨gb289, 1, none⟩) (Kd.S_far (p := ⟨gb289, 0, none⟩) (Kd.S_types HO284.out BK289.out (by decide)) (fun _ hk => hk.2) (.int .i64 t281)) (fun _ hk => hk.2) (.slice Ao59 t282.length co59)) (fun _ hk => by first | exact ⟨hk.1.1.2, hk.1.2⟩ | simp_all)))⟩; have n6_ : Aside0 (Kd.R k40 40 w60 w.heap.size (fun k_ => some k_ ≠ (v277 : Value).ownBlock) v286 t285) := ⟨(by rw [hw]; exact (by refine R1_ ?_; exact Kd.R_mono (Kd.R_far (p := ⟨gb289, 1, none⟩) (Kd.R_far (p := ⟨gb289, 0, none⟩) (Kd.R_types HO287.out BK289.out (by decide)) (fun _ hk => hk.2) (.int .i64 t281)) (fun _ hk => hk.2) (.slice Ao59 t282.length co59)) (fun _ hk => hk.1.2)))⟩; have n7_ : Aside0 (w60.heap[gb259]? = some (.cells #[.slice Ao20 t254.length co20] 24 (0, 0))) := ⟨(by rw [hw]; exact (G1_ BK259.out))⟩; have n8_ : Aside0 (w60.heap[gb260]? = some (.cells #[.int .i64 t257, .int .i64 t258] 79 (0, 0))) := ⟨(by rw [hw]; exact (G1_ BK260.out))⟩; have n9_ : Aside0 (w60.heap[gb266]? = some (.cells #[.slice Ao27 t261.length co27] 24 (0, 0))) := ⟨(by rw [hw]; exact (G1_ BK266.out))⟩; have n10_ : Aside0 (w60.heap[gb267]? = some (.cells #[.int .i64 t264, .int .i64 t265] 79 (0, 0))) := ⟨(by rw [hw]; exact (G1_ BK267.out))⟩; have n11_ : Aside0 (w60.heap[gb280]? = some (.cells #[.int .i64 t272, .slice Ao43 t273.length co43] 44 (0, 0))) := ⟨(by rw [hw]; exact (G1_ BK280.out))⟩; have n12_ : Aside0 (w60.heap[gb289]? = some (.cells #[.int .i64 t281, .slice Ao59 t282.length co59] 44 (0, 0))) := ⟨(by rw [hw]; exact (G1_ BK289.out))⟩; have n13_ : Aside0 (Below w.heap.size w w60) := ⟨(by rw [hw]; exact W2_)⟩; clear hw; clear HO256; clear HO263; clear HO271; clear HO275; clear HO278; clear HO284; clear HO287; clear BK259; clear BK260; clear BK266; clear BK267; clear BK280; clear BK289; clear HB; have HO256 := n0_; have HO263 := n1_; have HO271 := n2_; have HO275 := n3_; have HO278 := n4_; have HO284 := n5_; have HO287 := n6_; have BK259 := n7_; have BK260 := n8_; have BK266 := n9_; have BK267 := n10_; have BK280 := n11_; have BK289 := n12_; have HB := n13_; clear n0_ n1_ n2_ n3_ n4_ n5_ n6_ n7_ n8_ n9_ n10_ n11_ n12_ n13_; obtain ⟨Ao61, co61, eo61⟩ := Kd.R_slice HO278.out; subst eo61; have p290 : 0 ≤ (0 : Int) := (by omega); have q290 : 0 < (t276.length : Int) := oA_; obtain ⟨ad290, e290, hx290_0, hx290_1⟩ := at_T40 (Kd.R_reads' HO278.out).2.2 0 p290 q290; cases e290; have qi290 : (0 < t276.length) = True := eq_true (by omega); (try rw [show ((0 : Int)).toNat = 0 from rfl] at hx290_0); (try rw [show 0 * 2 = 0 from rfl] at hx290_0); (try rw [Addr.add_zero'] at hx290_0); (try rw [show ((0 : Int)).toNat = 0 from rfl] at hx290_1); (try rw [show 0 * 2 = 0 from rfl] at hx290_1); (try rw [Addr.add_zero'] at hx290_1); replace p290 := eq_true p290; replace q290 := eq_true q290; obtain ⟨z62_0, z62_1, y62_0, y62_1⟩ := cz2_ BK280.out; have p291 : 0 ≤ (0 : Int) := (by omega); have q291 : 0 < (t273.length : Int) := oA_; obtain ⟨ad291, A291_6, c291_6, e291, hx291_0, hx291_1, hx291_2, hx291_3, hx291_4, hx291_5, hx291_6, hx291_7, hl291_6, hi291_6⟩ := at_T59 (Kd.S_reads' HO275.out).2.2 0 p291 q291; cases e291; obtain ⟨ce291, hce291, hMe291, hcc291⟩ := Kd.S_get HO275.out z59 0 p291 (by first | exact q291 | exact oA_ | (have e_ := (Kd.S_reads' HO275.out).1; omega)); obtain ⟨ve291_6, rfl, ge291_6⟩ := k59_openM hMe291; have hv291_6 := hcc291 6 _ rfl; rw [add_field _ _ 6 (by omega)] at hv291_6; replace hv291_6 := Option.some.inj (hv291_6.symm.trans hx291_6); rw [hv291_6] at ge291_6; have HL291_6 := Aside0.mk (show Kd.R Kd.string 9 _ _ _ _ ((rd_T59 t273 0).f0.f6) from ge291_6); clear hv291_6 ge291_6; clear hcc291 hce291; have qi291 : (0 < t273.length) = True := eq_true (by omega); (try rw [show ((0 : Int)).toNat = 0 from rfl] at hx291_0); (try rw [show 0 * 8 = 0 from rfl] at hx291_0); (try rw [Addr.add_zero'] at hx291_0); (try rw [show ((0 : Int)).toNat = 0 from rfl] at hx291_1); (try rw [show 0 * 8 = 0 from rfl] at hx291_1); (try rw [Addr.add_zero'] at hx291_1); (try rw [show ((0 : Int)).toNat = 0 from rfl] at hx291_2); (try rw [show 0 * 8 = 0 from rfl] at hx291_2); (try rw [Addr.add_zero'] at hx291_2); (try rw [show ((0 : Int)).toNat = 0 from rfl] at hx291_3); (try rw [show 0 * 8 = 0 from rfl] at hx291_3); (try rw [Addr.add_zero'] at hx291_3); (try rw [show ((0 : Int)).toNat = 0 from rfl] at hx291_4); (try rw [show 0 * 8 = 0 from rfl] at hx291_4); (try rw [Addr.add_zero'] at hx291_4); (try rw [show ((0 : Int)).toNat = 0 from rfl] at hx291_5); (try rw [show 0 * 8 = 0 from rfl] at hx291_5); (try rw [Addr.add_zero'] at hx291_5); (try rw [show ((0 : Int)).toNat = 0 from rfl] at hx291_6); (try rw [show 0 * 8 = 0 from rfl] at hx291_6); (try rw [Addr.add_zero'] at hx291_6); (try rw [show ((0 : Int)).toNat = 0 from rfl] at hx291_7); (try rw [show 0 * 8 = 0 from rfl] at hx291_7); (try rw [Addr.add_zero'] at hx291_7); have HR291_6 := Aside0.mk hi291_6; have HC291_6 := Aside0.mk hl291_6; clear hi291_6 hl291_6; replace p291 := eq_true p291; replace q291 := eq_true q291; obtain ⟨Ao63, co63, eo63⟩ := Kd.R_slice HO287.out; subst eo63; have p292 : 0 ≤ (0 : Int) := (by omega); have q292 : 0 < (t285.length : Int) := oA_; obtain ⟨ad292, e292, hx292_0, hx292_1⟩ := at_T40 (Kd.R_reads' HO287.out).2.2 0 p292 q292; cases e292; have qi292 : (0 < t285.length) = True := eq_true (by omega); (try rw [show ((0 : Int)).toNat = 0 from rfl] at hx292_0); (try rw [show 0 * 2 = 0 from rfl] at hx292_0); (try rw [Addr.add_zero'] at hx292_0); (try rw [show ((0 : Int)).toNat = 0 from rfl] at hx292_1); (try rw [show 0 * 2 = 0 from rfl] at hx292_1); (try rw [Addr.add_zero'] at hx292_1); replace p292 := eq_true p292; replace q292 := eq_true q292; obtain ⟨z64_0, z64_1, y64_0, y64_1⟩ := cz2_ BK289.out; have p293 : 0 ≤ (0 : Int) := (by omega); have q293 : 0 < (t282.length : Int) := oA_; obtain ⟨ad293, A293_6, c293_6, e293, hx293_0, hx293_1, hx293_2, hx293_3, hx293_4, hx293_5, hx293_6, hx293_7, hl293_6, hi293_6⟩ := at_T59 (Kd.S_reads' HO284.out).2.2 0 p293 q293; cases e293; obtain ⟨ce293, hce293, hMe293, hcc293⟩ := Kd.S_get HO284.out z59 0 p293 (by first | exact q293 | exact oA_ | (have e_ := (Kd.S_reads' HO284.out).1; omega)); obtain ⟨ve293_6, rfl, ge293_6⟩ := k59_openM hMe293; have hv293_6 := hcc293 6 _ rfl; rw [add_field _ _ 6 (by omega)] at hv293_6; replace hv293_6 := Option.some.inj (hv293_6.symm.trans hx293_6); rw [hv293_6] at ge293_6; have HL293_6 := Aside0.mk (show Kd.R Kd.string 9 _ _ _ _ ((rd_T59 t282 0).f0.f6) from ge293_6); clear hv293_6 ge293_6; clear hcc293 hce293; have qi293 : (0 < t282.length) = True := eq_true (by omega); (try rw [show ((0 : Int)).toNat = 0 from rfl] at hx293_0); (try rw [show 0 * 8 = 0 from rfl] at hx293_0); (try rw [Addr.add_zero'] at hx293_0); (try rw [show ((0 : Int)).toNat = 0 from rfl] at hx293_1); (try rw [show 0 * 8 = 0 from rfl] at hx293_1); (try rw [Addr.add_zero'] at hx293_1); (try rw [show ((0 : Int)).toNat = 0 from rfl] at hx293_2); (try rw [show 0 * 8 = 0 from rfl] at hx293_2); (try rw [Addr.add_zero'] at hx293_2); (try rw [show ((0 : Int)).toNat = 0 from rfl] at hx293_3); (try rw [show 0 * 8 = 0 from rfl] at hx293_3); (try rw [Addr.add_zero'] at hx293_3); (try rw [show ((0 : Int)).toNat = 0 from rfl] at hx293_4); (try rw [show 0 * 8 = 0 from rfl] at hx293_4); (try rw [Addr.add_zero'] at hx293_4); (try rw [show ((0 : Int)).toNat = 0 from rfl] at hx293_5); (try rw [show 0 * 8 = 0 from rfl] at hx293_5); (try rw [Addr.add_zero'] at hx293_5); (try rw [show ((0 : Int)).toNat = 0 from rfl] at hx293_6); (try rw [show 0 * 8 = 0 from rfl] at hx293_6); (try rw [Addr.add_zero'] at hx293_6); (try rw [show ((0 : Int)).toNat = 0 from rfl] at hx293_7); (try rw [show 0 * 8 = 0 from rfl] at hx293_7); (try rw [Addr.add_zero'] at hx293_7); have HR293_6 := Aside0.mk hi293_6; have HC293_6 := Aside0.mk hl293_6; clear hi293_6 hl293_6; replace p293 := eq_true p293; replace q293 := eq_true q293))
            go_ret
            exact ⟨E1_, W2_⟩
           ·
            rw [if_neg c16] at H
            exact absurd H (by simp)
          ·
           rw [if_neg c15] at H
           exact absurd H (by simp)
         ·
          rw [if_neg c14] at H
          exact absurd H (by simp)
        ·
         rw [if_neg c13] at H
         exact absurd H (by simp)
       ·
        rw [if_neg c12] at H
        exact absurd H (by simp)
      ·
       rw [if_neg c11] at H
       exact absurd H (by simp)
     ·
      rw [if_neg c10] at H
      exact absurd H (by simp)
    ·
     rw [if_neg c9] at H
     exact absurd H (by simp)
   ·
    rw [if_neg c8] at H
    exact absurd H (by simp)
  ·
   rw [if_neg c7] at H
   exact absurd H (by simp)
 ·
  rw [if_neg c6] at H
  exact absurd H (by simp)

end Go.Proofs.YtlncpbnadlpihaaGreatDoor.PAll
