import Derived.Test.YtgpekljckdgggaaGreatDoorPAllx0
import Derived.Test.YtgpekljckdgggaaGreatDoorPAllx13
import Derived.Test.YtgpekljckdgggaaGreatDoorPAllx17
import Derived.Test.YtgpekljckdgggaaGreatDoorPAllx18
namespace Go.Proofs.YtgpekljckdgggaaGreatDoor.PAll
open Go.RowKit Go.Proofs.YtgpekljckdgggaaGreatDoorW.PrintWords Go.Proofs.YtgpekljckdgggaaGreatDoorW.PrintLast Go.Proofs.YtgpekljckdgggaaGreatDoorW.PrintMore
attribute [local go_sem] max2_int min2_int max_two min_two max_three min_three max_four min_four   -- for this text's walks alone
set_option linter.unusedVariables false
set_option linter.unusedSimpArgs false

/-! ### pantryref12_told: function 36 -/
mutual
def pantryref12_told.j0 : Nat → List (S70) → Int → Option (Int)
 | 0, _, _ => none
 | k + 1, x0, x6 => (pantryref03_Get.f k x0 (⟨#[101, 120, 112, 105, 114, 101, 115]⟩ : ByteArray)).bind fun bt391 => (if bt391.2 > 0 then ((pantryref12_Dated.f k x0 (⟨#[101, 120, 112, 105, 114, 101, 115]⟩ : ByteArray)).bind fun bt393 => (if bt393.2 = true then (pantryref12_told.j1 k x6 bt393.1 (decide (bt393.1 < x6))) else (pantryref12_told.j1 k x6 bt393.1 true))) else ((pantryref12_Dated.f k x0 (⟨#[108, 97, 115, 116, 45, 109, 111, 100, 105, 102, 105, 101, 100]⟩ : ByteArray)).bind fun bt395 => (if bt395.2 = true then (if bt395.1 > x6 then (some 0) else (some (wrap64 (Int.tdiv (wrap64 (x6 - bt395.1)) 10)))) else (some 0))))
def pantryref12_told.j1 : Nat → Int → Int → Bool → Option (Int)
 | 0, _, _, _ => none
 | k + 1, x6, x10, x52 => if x52 = true then (some 0) else (some (wrap64 (x10 - x6)))
end
def pantryref12_told.f (k : Nat) (l0 : List (S70)) (a1 : Int) : Option (Int) := (pantryref04_Of.f k l0).bind fun bt378 => (if bt378.2.2.2.2.2.2.2.1 ≥ 0 then (some bt378.2.2.2.2.2.2.2.1) else (if bt378.2.2.2.2.2.2.1 ≥ 0 then (some bt378.2.2.2.2.2.2.1) else ((pantryref12_Dated.f k l0 (⟨#[100, 97, 116, 101]⟩ : ByteArray)).bind fun bt389 => (if bt389.2 = true then (pantryref12_told.j0 k l0 bt389.1) else (pantryref12_told.j0 k l0 a1)))))
theorem pantryref12_told.mono_l : ∀ k, (∀ y0 y1, LeO (pantryref12_told.j0 k y0 y1) (pantryref12_told.j0 (k + 1) y0 y1)) ∧ (∀ y0 y1 y2, LeO (pantryref12_told.j1 k y0 y1 y2) (pantryref12_told.j1 (k + 1) y0 y1 y2))
 | 0 => ⟨fun _ _ r h => by simp [pantryref12_told.j0] at h, fun _ _ _ r h => by simp [pantryref12_told.j1] at h⟩
 | k + 1 => by
  obtain ⟨ih0, ih1⟩ := pantryref12_told.mono_l k
  refine ⟨?_, ?_⟩
  ·
   intro y0 y1
   unfold pantryref12_told.j0
   repeat' (with_reducible first | exact ih0 _ _ | exact ih1 _ _ _ | exact pantryref03_Get.mono _ _ _ | exact pantryref04_Of.mono _ _ | exact pantryref12_Dated.mono _ _ _ | exact lR_ | refine LeO.ite ?_ ?_ | refine LeO.bind ?_ (fun _ => ?_))
  ·
   intro y0 y1 y2
   unfold pantryref12_told.j1
   repeat' (with_reducible first | exact ih0 _ _ | exact ih1 _ _ _ | exact pantryref03_Get.mono _ _ _ | exact pantryref04_Of.mono _ _ | exact pantryref12_Dated.mono _ _ _ | exact lR_ | refine LeO.ite ?_ ?_ | refine LeO.bind ?_ (fun _ => ?_))
theorem pantryref12_told.mono : ∀ a0 a1 k, LeO (pantryref12_told.f k a0 a1) (pantryref12_told.f (k + 1) a0 a1) := by
 intro a0 a1 k
 obtain ⟨ih0, ih1⟩ := pantryref12_told.mono_l k
 unfold pantryref12_told.f
 repeat' (with_reducible first | exact ih0 _ _ | exact ih1 _ _ _ | exact pantryref03_Get.mono _ _ _ | exact pantryref04_Of.mono _ _ | exact pantryref12_Dated.mono _ _ _ | exact lR_ | refine LeO.ite ?_ ?_ | refine LeO.bind ?_ (fun _ => ?_))
set_option maxHeartbeats 8000000 in
set_option maxRecDepth 100000 in
theorem pantryref12_told.calls (k : Nat) (A0 : Option Addr) (c0 : Nat) (l0 : List (S70)) (a1 : Int) (r : Int) (w : World) (hr0 : Kd.C k70 w A0 l0.length l0) (hc0 : l0.length ≤ c0) (h : pantryref12_told.f k l0 a1 = some r) :
  Calls Tryz.prog 36 #[.slice A0 l0.length c0, .int .i64 a1] w fun e w' => e = .returned (.int .i64 r) ∧ Below w.heap.size w w' := by
 have hu64 := Tryz.underlying64
 have HR0 := Aside0.mk hr0
 have HC0 := Aside0.mk hc0
 clear hr0 hc0
 have HB := Aside0.mk (Below.refl w.heap.size w)
 have H : ((pantryref04_Of.f k l0).bind fun bt378 => (if bt378.2.2.2.2.2.2.2.1 ≥ 0 then (some bt378.2.2.2.2.2.2.2.1) else (if bt378.2.2.2.2.2.2.1 ≥ 0 then (some bt378.2.2.2.2.2.2.1) else ((pantryref12_Dated.f k l0 (⟨#[100, 97, 116, 101]⟩ : ByteArray)).bind fun bt389 => (if bt389.2 = true then (pantryref12_told.j0 k l0 bt389.1) else (pantryref12_told.j0 k l0 a1)))))) = some r := h
 clear h
 obtain ⟨⟨t378, t379, t380, t381, t382, t383, t384, t385, t386, t387⟩, A3, H⟩ := bS_ H
 try dsimp only at H
 by_cases c4 : t385 ≥ 0
 ·
  rw [if_pos c4] at H
  have c4b0 : decide (0 ≤ t385) = true := decide_eq_true c4
  clear c4
  obtain rfl := Option.some.inj H
  go_enter Tryz.func36, Tryz.ntmps36
  go_wp2_with (first | ((with_reducible refine gate_callee (f := 31) rfl ?_); refine goesL_ (some 15) rfl rfl Tryz.func31 (by kernel_rfl) rfl #[.slice A0 l0.length c0] rfl T1_ ?_; (with_reducible refine (pantryref04_Of.calls k _ _ l0 t378 t379 t380 t381 t382 t383 t384 t385 t386 t387 _ ?side1 ?side2 A3.out).mono ?_); (case side1 => exact C1_ (HR0.out)); (case side2 => exact HC0.out); rintro e w5 ⟨rfl, hb⟩; refine ⟨_, rfl, ?_⟩; replace HB := y1_ hb; (try clear hb)) | ((with_reducible refine gate_dst (N := 5) rfl ?_); refine box_event ?hg (N := 5) ?hd (cs := #[.bool false, .bool false, .bool false, .bool false, .bool false, .bool false, .int .i64 0, .int .i64 0, .int .i64 0, .int .i64 0]) (t := 64) ?hr ?_; (case hd | hg => rfl); (case hr => exact S1_); intro gb388 hg w6 hbox hb; have BK388 := Aside0.mk (hbox); have GW388 := Aside0.mk ((Z1_ : w.heap.size ≤ gb388)); have GE388 := Aside0.mk ((Z1_ : w.heap.size ≤ gb388)); replace HB := y1_ hb; clear hb hbox hg; obtain ⟨z7_0, z7_1, z7_2, z7_3, z7_4, z7_5, z7_6, z7_7, z7_8, z7_9, y7_0, y7_1, y7_2, y7_3, y7_4, y7_5, y7_6, y7_7, y7_8, y7_9⟩ := cz10_ BK388.out))
  go_ret
  exact ⟨E1_, W2_⟩
 ·
  rw [if_neg c4] at H
  have c4b0 : decide (0 ≤ t385) = false := decide_eq_false c4
  clear c4
  by_cases c8 : t384 ≥ 0
  ·
   rw [if_pos c8] at H
   have c8b0 : decide (0 ≤ t384) = true := decide_eq_true c8
   clear c8
   obtain rfl := Option.some.inj H
   go_enter Tryz.func36, Tryz.ntmps36
   go_wp2_with (first | ((with_reducible refine gate_callee (f := 31) rfl ?_); refine goesL_ (some 15) rfl rfl Tryz.func31 (by kernel_rfl) rfl #[.slice A0 l0.length c0] rfl T1_ ?_; (with_reducible refine (pantryref04_Of.calls k _ _ l0 t378 t379 t380 t381 t382 t383 t384 t385 t386 t387 _ ?side1 ?side2 A3.out).mono ?_); (case side1 => exact C1_ (HR0.out)); (case side2 => exact HC0.out); rintro e w9 ⟨rfl, hb⟩; refine ⟨_, rfl, ?_⟩; replace HB := y1_ hb; (try clear hb)) | ((with_reducible refine gate_dst (N := 5) rfl ?_); refine box_event ?hg (N := 5) ?hd (cs := #[.bool false, .bool false, .bool false, .bool false, .bool false, .bool false, .int .i64 0, .int .i64 0, .int .i64 0, .int .i64 0]) (t := 64) ?hr ?_; (case hd | hg => rfl); (case hr => exact S1_); intro gb388 hg w10 hbox hb; have BK388 := Aside0.mk (hbox); have GW388 := Aside0.mk ((Z1_ : w.heap.size ≤ gb388)); have GE388 := Aside0.mk ((Z1_ : w.heap.size ≤ gb388)); replace HB := y1_ hb; clear hb hbox hg; obtain ⟨z11_0, z11_1, z11_2, z11_3, z11_4, z11_5, z11_6, z11_7, z11_8, z11_9, y11_0, y11_1, y11_2, y11_3, y11_4, y11_5, y11_6, y11_7, y11_8, y11_9⟩ := cz10_ BK388.out))
   go_ret
   exact ⟨E1_, W2_⟩
  ·
   rw [if_neg c8] at H
   have c8b0 : decide (0 ≤ t384) = false := decide_eq_false c8
   clear c8
   obtain ⟨⟨t389, t390⟩, A12, H⟩ := bS_ H
   try dsimp only at H
   have HC13 := Aside0.mk H
   clear H
   go_enter Tryz.func36, Tryz.ntmps36
   go_upto_if 32 with (first | ((with_reducible refine gate_callee (f := 31) rfl ?_); refine goesL_ (some 15) rfl rfl Tryz.func31 (by kernel_rfl) rfl #[.slice A0 l0.length c0] rfl T1_ ?_; (with_reducible refine (pantryref04_Of.calls k _ _ l0 t378 t379 t380 t381 t382 t383 t384 t385 t386 t387 _ ?side1 ?side2 A3.out).mono ?_); (case side1 => exact C1_ (HR0.out)); (case side2 => exact HC0.out); rintro e w14 ⟨rfl, hb⟩; refine ⟨_, rfl, ?_⟩; replace HB := y1_ hb; (try clear hb)) | ((with_reducible refine gate_dst (N := 5) rfl ?_); refine box_event ?hg (N := 5) ?hd (cs := #[.bool false, .bool false, .bool false, .bool false, .bool false, .bool false, .int .i64 0, .int .i64 0, .int .i64 0, .int .i64 0]) (t := 64) ?hr ?_; (case hd | hg => rfl); (case hr => exact S1_); intro gb388 hg w15 hbox hb; have BK388 := Aside0.mk (hbox); have GW388 := Aside0.mk ((Z1_ : w.heap.size ≤ gb388)); have GE388 := Aside0.mk ((Z1_ : w.heap.size ≤ gb388)); replace HB := y1_ hb; clear hb hbox hg; obtain ⟨z16_0, z16_1, z16_2, z16_3, z16_4, z16_5, z16_6, z16_7, z16_8, z16_9, y16_0, y16_1, y16_2, y16_3, y16_4, y16_5, y16_6, y16_7, y16_8, y16_9⟩ := cz10_ BK388.out) | ((with_reducible refine gate_callee (f := 39) rfl ?_); refine goesL_ (some 28) rfl rfl Tryz.func39 (by kernel_rfl) rfl #[.slice A0 l0.length c0, .string (⟨#[100, 97, 116, 101]⟩ : ByteArray)] rfl T1_ ?_; (with_reducible refine (pantryref12_Dated.calls k _ _ l0 (⟨#[100, 97, 116, 101]⟩ : ByteArray) t389 t390 _ ?side1 ?side2 A12.out).mono ?_); (case side1 => exact Kd.C_below HR0.out W2_); (case side2 => exact HC0.out); rintro e w17 ⟨rfl, hb⟩; refine ⟨_, rfl, ?_⟩; replace BK388 := Aside0.mk (blk_below (g := gb388) (o := .cells #[.bool t378, .bool t379, .bool t380, .bool t381, .bool t382, .bool t383, .int .i64 t384, .int .i64 t385, .int .i64 t386, .int .i64 t387] 64 (0, 0)) (G1_ BK388.out) hb); replace HB := y2_ hb; (try clear hb)))
   (try simp only [Act.put, sA_, sZ_, sS_])
   go_cut [6] (fun v6 wc => ∃ (kq : Nat) (x6_12 : Int), v6 = .int .i64 x6_12 ∧ Aside0 (pantryref12_told.j0 kq l0 x6_12 = some r) ∧ Aside0 (kq ≤ k) ∧ Aside0 (wc.heap[gb388]? = some (.cells #[.bool t378, .bool t379, .bool t380, .bool t381, .bool t382, .bool t383, .int .i64 t384, .int .i64 t385, .int .i64 t386, .int .i64 t387] 64 (0, 0))) ∧ Aside0 (Below w.heap.size w wc))
   case first =>
    have H := HC13.out
    clear HC13
    by_cases c18 : t390 = true
    ·
     subst c18
     rw [if_pos rfl] at H
     have H' := Aside0.mk H
     clear H
     go_wp2
     go_meet
     case rel => exact ⟨_, (t389), E3_, H', ⟨by first | omega | exact Nat.le_refl _⟩, ⟨B1_ BK388.out⟩, ⟨W2_⟩⟩
    ·
     replace c18 := Bool.eq_false_iff.mpr c18
     subst c18
     rw [if_neg (show ¬ (false = true) by decide)] at H
     have H' := Aside0.mk H
     clear H
     go_wp2
     go_meet
     case rel => exact ⟨_, (a1), E3_, H', ⟨by first | omega | exact Nat.le_refl _⟩, ⟨B1_ BK388.out⟩, ⟨W2_⟩⟩
   case rest =>
    clear HC13
    (try clear c4); (try clear c4b0); (try clear c8); (try clear c8b0); (try clear c18); (try clear z11_0 z11_1 z11_2 z11_3 z11_4 z11_5 z11_6 z11_7 z11_8 z11_9 y11_0 y11_1 y11_2 y11_3 y11_4 y11_5 y11_6 y11_7 y11_8 y11_9); (try clear z16_0 z16_1 z16_2 z16_3 z16_4 z16_5 z16_6 z16_7 z16_8 z16_9 y16_0 y16_1 y16_2 y16_3 y16_4 y16_5 y16_6 y16_7 y16_8 y16_9); (try clear z7_0 z7_1 z7_2 z7_3 z7_4 z7_5 z7_6 z7_7 z7_8 z7_9 y7_0 y7_1 y7_2 y7_3 y7_4 y7_5 y7_6 y7_7 y7_8 y7_9)
    obtain ⟨kq, x6_12, rfl, HA, HJ12, BK388, HB⟩ := hcut
    cases kq with
    | zero => exact absurd HA.out (by simp [pantryref12_told.j0])
    | succ kj12 =>
     have H := HA.out
     clear HA
     simp only [pantryref12_told.j0] at H
     obtain ⟨⟨t391, t392⟩, A19, H⟩ := bS_ H
     try dsimp only at H
     by_cases c20 : t392 > 0
     ·
      rw [if_pos c20] at H
      have c20b0 : decide (0 < t392) = true := decide_eq_true c20
      clear c20
      obtain ⟨⟨t393, t394⟩, A21, H⟩ := bS_ H
      try dsimp only at H
      have HC22 := Aside0.mk H
      clear H
      go_upto_region 12 with (first | ((with_reducible refine gate_callee (f := 32) rfl ?_); refine goesL_ (some 36) rfl rfl Tryz.func32 (by kernel_rfl) rfl #[.slice A0 l0.length c0, .string (⟨#[101, 120, 112, 105, 114, 101, 115]⟩ : ByteArray)] rfl T1_ ?_; (with_reducible refine (pantryref03_Get.calls kj12 _ _ l0 (⟨#[101, 120, 112, 105, 114, 101, 115]⟩ : ByteArray) t391 t392 _ ?side1 ?side2 A19.out).mono ?_); (case side1 => exact C1_ ((Kd.C_below HR0.out HB.out))); (case side2 => exact HC0.out); rintro e w23 ⟨rfl, hb⟩; refine ⟨_, rfl, ?_⟩; replace BK388 := yB_ BK388 hb; replace HB := y2_ hb; (try clear hb)) | ((with_reducible refine gate_callee (f := 39) rfl ?_); refine goesL_ (some 43) rfl rfl Tryz.func39 (by kernel_rfl) rfl #[.slice A0 l0.length c0, .string (⟨#[101, 120, 112, 105, 114, 101, 115]⟩ : ByteArray)] rfl T1_ ?_; (with_reducible refine (pantryref12_Dated.calls kj12 _ _ l0 (⟨#[101, 120, 112, 105, 114, 101, 115]⟩ : ByteArray) t393 t394 _ ?side1 ?side2 A21.out).mono ?_); (case side1 => exact C1_ ((Kd.C_below HR0.out HB.out))); (case side2 => exact HC0.out); rintro e w24 ⟨rfl, hb⟩; refine ⟨_, rfl, ?_⟩; replace BK388 := yB_ BK388 hb; replace HB := y2_ hb; (try clear hb)))
      (try simp only [Act.put, sA_, sZ_, sS_])
      go_cut [52] (fun v52 wc => ∃ (kq : Nat) (x52_21 : Bool), v52 = .bool x52_21 ∧ Aside0 (pantryref12_told.j1 kq x6_12 t393 x52_21 = some r) ∧ Aside0 (kq ≤ kj12) ∧ Aside0 (wc.heap[gb388]? = some (.cells #[.bool t378, .bool t379, .bool t380, .bool t381, .bool t382, .bool t383, .int .i64 t384, .int .i64 t385, .int .i64 t386, .int .i64 t387] 64 (0, 0))) ∧ Aside0 (Below w.heap.size w wc))
      case first =>
       have H := HC22.out
       clear HC22
       by_cases c25 : t394 = true
       ·
        subst c25
        rw [if_pos rfl] at H
        have H' := Aside0.mk H
        clear H
        go_wp2
        go_meet
        case rel => exact ⟨_, (decide (t393 < x6_12)), E3_, H', ⟨by have := HJ12.out; first | omega | exact Nat.le_refl _⟩, ⟨B1_ BK388.out⟩, ⟨W2_⟩⟩
       ·
        replace c25 := Bool.eq_false_iff.mpr c25
        subst c25
        rw [if_neg (show ¬ (false = true) by decide)] at H
        have H' := Aside0.mk H
        clear H
        go_wp2
        go_meet
        case rel => exact ⟨_, (true), E3_, H', ⟨by have := HJ12.out; first | omega | exact Nat.le_refl _⟩, ⟨B1_ BK388.out⟩, ⟨W2_⟩⟩
      case rest =>
       clear HC22
       (try clear c4); (try clear c4b0); (try clear c8); (try clear c8b0); (try clear c18); (try clear c20); (try clear c20b0); (try clear c25); (try clear z11_0 z11_1 z11_2 z11_3 z11_4 z11_5 z11_6 z11_7 z11_8 z11_9 y11_0 y11_1 y11_2 y11_3 y11_4 y11_5 y11_6 y11_7 y11_8 y11_9); (try clear z16_0 z16_1 z16_2 z16_3 z16_4 z16_5 z16_6 z16_7 z16_8 z16_9 y16_0 y16_1 y16_2 y16_3 y16_4 y16_5 y16_6 y16_7 y16_8 y16_9); (try clear z7_0 z7_1 z7_2 z7_3 z7_4 z7_5 z7_6 z7_7 z7_8 z7_9 y7_0 y7_1 y7_2 y7_3 y7_4 y7_5 y7_6 y7_7 y7_8 y7_9)
       obtain ⟨kq, x52_21, rfl, HA, HJ21, BK388, HB⟩ := hcut
       cases kq with
       | zero => exact absurd HA.out (by simp [pantryref12_told.j1])
       | succ kj21 =>
        have H := HA.out
        clear HA
        simp only [pantryref12_told.j1] at H
        by_cases c26 : x52_21 = true
        ·
         subst c26
         rw [if_pos rfl] at H
         obtain rfl := Option.some.inj H
         go_wp2
         go_ret
         exact ⟨E1_, W2_⟩
        ·
         replace c26 := Bool.eq_false_iff.mpr c26
         subst c26
         rw [if_neg (show ¬ (false = true) by decide)] at H
         obtain rfl := Option.some.inj H
         go_wp2
         go_ret
         exact ⟨E1_, W2_⟩
     ·
      rw [if_neg c20] at H
      have c20b0 : decide (0 < t392) = false := decide_eq_false c20
      clear c20
      obtain ⟨⟨t395, t396⟩, A27, H⟩ := bS_ H
      try dsimp only at H
      by_cases c28 : t396 = true
      ·
       subst c28
       rw [if_pos rfl] at H
       by_cases c29 : t395 > x6_12
       ·
        rw [if_pos c29] at H
        have c29b0 : decide (x6_12 < t395) = true := decide_eq_true c29
        clear c29
        obtain rfl := Option.some.inj H
        go_wp2_with (first | ((with_reducible refine gate_callee (f := 32) rfl ?_); refine goesL_ (some 36) rfl rfl Tryz.func32 (by kernel_rfl) rfl #[.slice A0 l0.length c0, .string (⟨#[101, 120, 112, 105, 114, 101, 115]⟩ : ByteArray)] rfl T1_ ?_; (with_reducible refine (pantryref03_Get.calls kj12 _ _ l0 (⟨#[101, 120, 112, 105, 114, 101, 115]⟩ : ByteArray) t391 t392 _ ?side1 ?side2 A19.out).mono ?_); (case side1 => exact C1_ ((Kd.C_below HR0.out HB.out))); (case side2 => exact HC0.out); rintro e w30 ⟨rfl, hb⟩; refine ⟨_, rfl, ?_⟩; replace BK388 := yB_ BK388 hb; replace HB := y2_ hb; (try clear hb)) | ((with_reducible refine gate_callee (f := 39) rfl ?_); refine goesL_ (some 58) rfl rfl Tryz.func39 (by kernel_rfl) rfl #[.slice A0 l0.length c0, .string (⟨#[108, 97, 115, 116, 45, 109, 111, 100, 105, 102, 105, 101, 100]⟩ : ByteArray)] rfl T1_ ?_; (with_reducible refine (pantryref12_Dated.calls kj12 _ _ l0 (⟨#[108, 97, 115, 116, 45, 109, 111, 100, 105, 102, 105, 101, 100]⟩ : ByteArray) t395 true _ ?side1 ?side2 A27.out).mono ?_); (case side1 => exact C1_ ((Kd.C_below HR0.out HB.out))); (case side2 => exact HC0.out); rintro e w31 ⟨rfl, hb⟩; refine ⟨_, rfl, ?_⟩; replace BK388 := yB_ BK388 hb; replace HB := y2_ hb; (try clear hb)))
        go_ret
        exact ⟨E1_, W2_⟩
       ·
        rw [if_neg c29] at H
        have c29b0 : decide (x6_12 < t395) = false := decide_eq_false c29
        clear c29
        obtain rfl := Option.some.inj H
        go_wp2_with (first | ((with_reducible refine gate_callee (f := 32) rfl ?_); refine goesL_ (some 36) rfl rfl Tryz.func32 (by kernel_rfl) rfl #[.slice A0 l0.length c0, .string (⟨#[101, 120, 112, 105, 114, 101, 115]⟩ : ByteArray)] rfl T1_ ?_; (with_reducible refine (pantryref03_Get.calls kj12 _ _ l0 (⟨#[101, 120, 112, 105, 114, 101, 115]⟩ : ByteArray) t391 t392 _ ?side1 ?side2 A19.out).mono ?_); (case side1 => exact C1_ ((Kd.C_below HR0.out HB.out))); (case side2 => exact HC0.out); rintro e w32 ⟨rfl, hb⟩; refine ⟨_, rfl, ?_⟩; replace BK388 := yB_ BK388 hb; replace HB := y2_ hb; (try clear hb)) | ((with_reducible refine gate_callee (f := 39) rfl ?_); refine goesL_ (some 58) rfl rfl Tryz.func39 (by kernel_rfl) rfl #[.slice A0 l0.length c0, .string (⟨#[108, 97, 115, 116, 45, 109, 111, 100, 105, 102, 105, 101, 100]⟩ : ByteArray)] rfl T1_ ?_; (with_reducible refine (pantryref12_Dated.calls kj12 _ _ l0 (⟨#[108, 97, 115, 116, 45, 109, 111, 100, 105, 102, 105, 101, 100]⟩ : ByteArray) t395 true _ ?side1 ?side2 A27.out).mono ?_); (case side1 => exact C1_ ((Kd.C_below HR0.out HB.out))); (case side2 => exact HC0.out); rintro e w33 ⟨rfl, hb⟩; refine ⟨_, rfl, ?_⟩; replace BK388 := yB_ BK388 hb; replace HB := y2_ hb; (try clear hb)))
        go_ret
        exact ⟨E1_, W2_⟩
      ·
       replace c28 := Bool.eq_false_iff.mpr c28
       subst c28
       rw [if_neg (show ¬ (false = true) by decide)] at H
       obtain rfl := Option.some.inj H
       go_wp2_with (first | ((with_reducible refine gate_callee (f := 32) rfl ?_); refine goesL_ (some 36) rfl rfl Tryz.func32 (by kernel_rfl) rfl #[.slice A0 l0.length c0, .string (⟨#[101, 120, 112, 105, 114, 101, 115]⟩ : ByteArray)] rfl T1_ ?_; (with_reducible refine (pantryref03_Get.calls kj12 _ _ l0 (⟨#[101, 120, 112, 105, 114, 101, 115]⟩ : ByteArray) t391 t392 _ ?side1 ?side2 A19.out).mono ?_); (case side1 => exact C1_ ((Kd.C_below HR0.out HB.out))); (case side2 => exact HC0.out); rintro e w34 ⟨rfl, hb⟩; refine ⟨_, rfl, ?_⟩; replace BK388 := yB_ BK388 hb; replace HB := y2_ hb; (try clear hb)) | ((with_reducible refine gate_callee (f := 39) rfl ?_); refine goesL_ (some 58) rfl rfl Tryz.func39 (by kernel_rfl) rfl #[.slice A0 l0.length c0, .string (⟨#[108, 97, 115, 116, 45, 109, 111, 100, 105, 102, 105, 101, 100]⟩ : ByteArray)] rfl T1_ ?_; (with_reducible refine (pantryref12_Dated.calls kj12 _ _ l0 (⟨#[108, 97, 115, 116, 45, 109, 111, 100, 105, 102, 105, 101, 100]⟩ : ByteArray) t395 false _ ?side1 ?side2 A27.out).mono ?_); (case side1 => exact C1_ ((Kd.C_below HR0.out HB.out))); (case side2 => exact HC0.out); rintro e w35 ⟨rfl, hb⟩; refine ⟨_, rfl, ?_⟩; replace BK388 := yB_ BK388 hb; replace HB := y2_ hb; (try clear hb)))
       go_ret
       exact ⟨E1_, W2_⟩

/-! ### pantryref12_Life: function 18 -/
def pantryref12_Life.j0 : Nat → List (S70) → Int → Bool → ByteArray → Int → Int → Int → Bool → Bool → List ByteArray → Option (Int)
 | 0, _, _, _, _, _, _, _, _, _, _ => none
 | k + 1, x1, x2, x13, x398000, x398001, x398002, x398003, x398004, x398005, x398006 => if x13 = true then (some 0) else ((pantryref12_told.f k x1 x2).bind fun t398 => (if t398 < x398002 then (if x398002 > x398003 then (some x398003) else (some x398002)) else (if t398 > x398003 then (some x398003) else (some t398))))
def pantryref12_Life.f (k : Nat) (a0_0 : ByteArray) (a0_1 : Int) (a0_2 : Int) (a0_3 : Int) (a0_4 : Bool) (a0_5 : Bool) (l0_6 : List ByteArray) (l1 : List (S70)) (a2 : Int) : Option (Int) := if a2 < 0 then (pantryref12_Life.j0 k l1 a2 true a0_0 a0_1 a0_2 a0_3 a0_4 a0_5 l0_6) else (pantryref12_Life.j0 k l1 a2 (decide (a2 > 253402300799)) a0_0 a0_1 a0_2 a0_3 a0_4 a0_5 l0_6)
theorem pantryref12_Life.mono_l : ∀ k, (∀ y0 y1 y2 y3 y4 y5 y6 y7 y8 y9, LeO (pantryref12_Life.j0 k y0 y1 y2 y3 y4 y5 y6 y7 y8 y9) (pantryref12_Life.j0 (k + 1) y0 y1 y2 y3 y4 y5 y6 y7 y8 y9))
 | 0 => fun _ _ _ _ _ _ _ _ _ _ r h => by simp [pantryref12_Life.j0] at h
 | k + 1 => by
  have ih0 := pantryref12_Life.mono_l k
  ·
   intro y0 y1 y2 y3 y4 y5 y6 y7 y8 y9
   unfold pantryref12_Life.j0
   repeat' (with_reducible first | exact ih0 _ _ _ _ _ _ _ _ _ _ | exact pantryref12_told.mono _ _ _ | exact lR_ | refine LeO.ite ?_ ?_ | refine LeO.bind ?_ (fun _ => ?_))
theorem pantryref12_Life.mono : ∀ a0 a1 a2 a3 a4 a5 a6 a7 a8 k, LeO (pantryref12_Life.f k a0 a1 a2 a3 a4 a5 a6 a7 a8) (pantryref12_Life.f (k + 1) a0 a1 a2 a3 a4 a5 a6 a7 a8) := by
 intro a0 a1 a2 a3 a4 a5 a6 a7 a8 k
 have ih0 := pantryref12_Life.mono_l k
 unfold pantryref12_Life.f
 repeat' (with_reducible first | exact ih0 _ _ _ _ _ _ _ _ _ _ | exact pantryref12_told.mono _ _ _ | exact lR_ | refine LeO.ite ?_ ?_ | refine LeO.bind ?_ (fun _ => ?_))
set_option maxHeartbeats 8000000 in
set_option maxRecDepth 100000 in
theorem pantryref12_Life.calls (k : Nat) (a0_0 : ByteArray) (a0_1 : Int) (a0_2 : Int) (a0_3 : Int) (a0_4 : Bool) (a0_5 : Bool) (A0_6 : Option Addr) (c0_6 : Nat) (l0_6 : List ByteArray) (A1 : Option Addr) (c1 : Nat) (l1 : List (S70)) (a2 : Int) (r : Int) (w : World) (hr0_6 : Kd.C Kd.string w A0_6 l0_6.length l0_6) (hc0_6 : l0_6.length ≤ c0_6) (hr1 : Kd.C k70 w A1 l1.length l1) (hc1 : l1.length ≤ c1) (h : pantryref12_Life.f k a0_0 a0_1 a0_2 a0_3 a0_4 a0_5 l0_6 l1 a2 = some r) :
  Calls Tryz.prog 18 #[.agg #[.string a0_0, .int .i64 a0_1, .int .i64 a0_2, .int .i64 a0_3, .bool a0_4, .bool a0_5, .slice A0_6 l0_6.length c0_6], .slice A1 l1.length c1, .int .i64 a2] w fun e w' => e = .returned (.int .i64 r) ∧ Below w.heap.size w w' := by
 have hu32 := Tryz.underlying32
 have HR0_6 := Aside0.mk hr0_6
 have HC0_6 := Aside0.mk hc0_6
 clear hr0_6 hc0_6
 have HR1 := Aside0.mk hr1
 have HC1 := Aside0.mk hc1
 clear hr1 hc1
 have HB := Aside0.mk (Below.refl w.heap.size w)
 have H : (if a2 < 0 then (pantryref12_Life.j0 k l1 a2 true a0_0 a0_1 a0_2 a0_3 a0_4 a0_5 l0_6) else (pantryref12_Life.j0 k l1 a2 (decide (a2 > 253402300799)) a0_0 a0_1 a0_2 a0_3 a0_4 a0_5 l0_6)) = some r := h
 clear h
 have HC4 := Aside0.mk H
 clear H
 go_enter Tryz.func18, Tryz.ntmps18
 go_upto_region 1 with (first | ((with_reducible refine gate_dst (N := 3) rfl ?_); refine box_event ?hg (N := 3) ?hd (cs := #[.string a0_0, .int .i64 a0_1, .int .i64 a0_2, .int .i64 a0_3, .bool a0_4, .bool a0_5, .slice A0_6 l0_6.length c0_6]) (t := 32) ?hr ?_; (case hd | hg => rfl); (case hr => exact S1_); intro gb397 hg w5 hbox hb; have BK397 := Aside0.mk (hbox); have GW397 := Aside0.mk ((Z1_ : w.heap.size ≤ gb397)); have GE397 := Aside0.mk ((Z1_ : w.heap.size ≤ gb397)); replace HB := y1_ hb; clear hb hbox hg))
 (try simp only [Act.put, sA_, sZ_, sS_])
 go_cut [13] (fun v13 wc => ∃ (kq : Nat) (x13_3 : Bool), v13 = .bool x13_3 ∧ Aside0 (pantryref12_Life.j0 kq l1 a2 x13_3 a0_0 a0_1 a0_2 a0_3 a0_4 a0_5 l0_6 = some r) ∧ Aside0 (kq ≤ k) ∧ Aside0 (wc.heap[gb397]? = some (.cells #[.string a0_0, .int .i64 a0_1, .int .i64 a0_2, .int .i64 a0_3, .bool a0_4, .bool a0_5, (.slice A0_6 l0_6.length c0_6)] 32 (0, 0))) ∧ Aside0 (Below w.heap.size w wc))
 case first =>
  have H := HC4.out
  clear HC4
  by_cases c6 : a2 < 0
  ·
   rw [if_pos c6] at H
   have c6b0 : decide (a2 < 0) = true := decide_eq_true c6
   clear c6
   (first | rw [c6b0] | (simp only [i64_w, i32_w]; rw [c6b0]) | skip)
   have H' := Aside0.mk H
   clear H
   go_wp2
   go_meet
   case rel => exact ⟨_, (true), E3_, H', ⟨by first | omega | exact Nat.le_refl _⟩, ⟨B1_ BK397.out⟩, ⟨W2_⟩⟩
  ·
   rw [if_neg c6] at H
   have c6b0 : decide (a2 < 0) = false := decide_eq_false c6
   clear c6
   (first | rw [c6b0] | (simp only [i64_w, i32_w]; rw [c6b0]) | skip)
   have H' := Aside0.mk H
   clear H
   go_wp2
   go_meet
   case rel => exact ⟨_, (decide (a2 > 253402300799)), E3_, H', ⟨by first | omega | exact Nat.le_refl _⟩, ⟨B1_ BK397.out⟩, ⟨W2_⟩⟩
 case rest =>
  clear HC4
  (try clear c1); (try clear c6); (try clear c6b0)
  obtain ⟨kq, x13_3, rfl, HA, HJ3, BK397, HB⟩ := hcut
  cases kq with
  | zero => exact absurd HA.out (by simp [pantryref12_Life.j0])
  | succ kj3 =>
   have H := HA.out
   clear HA
   simp only [pantryref12_Life.j0] at H
   by_cases c7 : x13_3 = true
   ·
    subst c7
    rw [if_pos rfl] at H
    obtain rfl := Option.some.inj H
    go_wp2
    go_ret
    exact ⟨E1_, W2_⟩
   ·
    replace c7 := Bool.eq_false_iff.mpr c7
    subst c7
    rw [if_neg (show ¬ (false = true) by decide)] at H
    obtain ⟨t398, A8, H⟩ := bS_ H
    try dsimp only at H
    by_cases c9 : t398 < a0_2
    ·
     rw [if_pos c9] at H
     have c9b0 : decide (t398 < a0_2) = true := decide_eq_true c9
     clear c9
     by_cases c10 : a0_2 > a0_3
     ·
      rw [if_pos c10] at H
      have c10b0 : decide (a0_3 < a0_2) = true := decide_eq_true c10
      clear c10
      obtain rfl := Option.some.inj H
      go_wp2_with (first | ((with_reducible refine gate_callee (f := 36) rfl ?_); refine goesL_ (some 16) rfl rfl Tryz.func36 (by kernel_rfl) rfl #[.slice A1 l1.length c1, .int .i64 a2] rfl T1_ ?_; (with_reducible refine (pantryref12_told.calls kj3 _ _ l1 a2 t398 _ ?side1 ?side2 A8.out).mono ?_); (case side1 => exact C1_ ((Kd.C_below HR1.out HB.out))); (case side2 => exact HC1.out); rintro e w11 ⟨rfl, hb⟩; refine ⟨_, rfl, ?_⟩; replace BK397 := yB_ BK397 hb; replace HB := y2_ hb; (try clear hb); obtain ⟨z12_0, z12_1, z12_2, z12_3, z12_4, z12_5, z12_6, y12_0, y12_1, y12_2, y12_3, y12_4, y12_5, y12_6⟩ := cz7_ BK397.out))
      go_ret
      exact ⟨E1_, W2_⟩
     ·
      rw [if_neg c10] at H
      have c10b0 : decide (a0_3 < a0_2) = false := decide_eq_false c10
      clear c10
      obtain rfl := Option.some.inj H
      go_wp2_with (first | ((with_reducible refine gate_callee (f := 36) rfl ?_); refine goesL_ (some 16) rfl rfl Tryz.func36 (by kernel_rfl) rfl #[.slice A1 l1.length c1, .int .i64 a2] rfl T1_ ?_; (with_reducible refine (pantryref12_told.calls kj3 _ _ l1 a2 t398 _ ?side1 ?side2 A8.out).mono ?_); (case side1 => exact C1_ ((Kd.C_below HR1.out HB.out))); (case side2 => exact HC1.out); rintro e w13 ⟨rfl, hb⟩; refine ⟨_, rfl, ?_⟩; replace BK397 := yB_ BK397 hb; replace HB := y2_ hb; (try clear hb); obtain ⟨z14_0, z14_1, z14_2, z14_3, z14_4, z14_5, z14_6, y14_0, y14_1, y14_2, y14_3, y14_4, y14_5, y14_6⟩ := cz7_ BK397.out))
      go_ret
      exact ⟨E1_, W2_⟩
    ·
     rw [if_neg c9] at H
     have c9b0 : decide (t398 < a0_2) = false := decide_eq_false c9
     clear c9
     by_cases c15 : t398 > a0_3
     ·
      rw [if_pos c15] at H
      have c15b0 : decide (a0_3 < t398) = true := decide_eq_true c15
      clear c15
      obtain rfl := Option.some.inj H
      go_wp2_with (first | ((with_reducible refine gate_callee (f := 36) rfl ?_); refine goesL_ (some 16) rfl rfl Tryz.func36 (by kernel_rfl) rfl #[.slice A1 l1.length c1, .int .i64 a2] rfl T1_ ?_; (with_reducible refine (pantryref12_told.calls kj3 _ _ l1 a2 t398 _ ?side1 ?side2 A8.out).mono ?_); (case side1 => exact C1_ ((Kd.C_below HR1.out HB.out))); (case side2 => exact HC1.out); rintro e w16 ⟨rfl, hb⟩; refine ⟨_, rfl, ?_⟩; replace BK397 := yB_ BK397 hb; replace HB := y2_ hb; (try clear hb); obtain ⟨z17_0, z17_1, z17_2, z17_3, z17_4, z17_5, z17_6, y17_0, y17_1, y17_2, y17_3, y17_4, y17_5, y17_6⟩ := cz7_ BK397.out))
      go_ret
      exact ⟨E1_, W2_⟩
     ·
      rw [if_neg c15] at H
      have c15b0 : decide (a0_3 < t398) = false := decide_eq_false c15
      clear c15
      obtain rfl := Option.some.inj H
      go_wp2_with (first | ((with_reducible refine gate_callee (f := 36) rfl ?_); refine goesL_ (some 16) rfl rfl Tryz.func36 (by kernel_rfl) rfl #[.slice A1 l1.length c1, .int .i64 a2] rfl T1_ ?_; (with_reducible refine (pantryref12_told.calls kj3 _ _ l1 a2 t398 _ ?side1 ?side2 A8.out).mono ?_); (case side1 => exact C1_ ((Kd.C_below HR1.out HB.out))); (case side2 => exact HC1.out); rintro e w18 ⟨rfl, hb⟩; refine ⟨_, rfl, ?_⟩; replace BK397 := yB_ BK397 hb; replace HB := y2_ hb; (try clear hb); obtain ⟨z19_0, z19_1, z19_2, z19_3, z19_4, z19_5, z19_6, y19_0, y19_1, y19_2, y19_3, y19_4, y19_5, y19_6⟩ := cz7_ BK397.out))
      go_ret
      exact ⟨E1_, W2_⟩

end Go.Proofs.YtgpekljckdgggaaGreatDoor.PAll
