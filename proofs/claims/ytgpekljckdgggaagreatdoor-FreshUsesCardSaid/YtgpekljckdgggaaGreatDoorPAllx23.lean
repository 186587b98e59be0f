import Derived.Test.YtgpekljckdgggaaGreatDoorPAllx0
import Derived.Test.YtgpekljckdgggaaGreatDoorPAllx11
import Derived.Test.YtgpekljckdgggaaGreatDoorPAllx12
import Derived.Test.YtgpekljckdgggaaGreatDoorPAllx22
namespace Go.Proofs.YtgpekljckdgggaaGreatDoor.PAll
open Go.RowKit Go.Proofs.YtgpekljckdgggaaGreatDoorW.PrintWords Go.Proofs.YtgpekljckdgggaaGreatDoorW.PrintLast Go.Proofs.YtgpekljckdgggaaGreatDoorW.PrintMore
attribute [local go_sem] max2_int min2_int max_two min_two max_three min_three max_four min_four   -- for this text's walks alone
set_option linter.unusedVariables false
set_option linter.unusedSimpArgs false

/-! ### pantrylaw12_FreshUses: function 5 -/
def pantrylaw12_FreshUses.j0 : Nat → List (S46) → List (S46) → Int → Int → Int → Bool → ByteArray → Int → Int → Int → Bool → Bool → List ByteArray → Option (Bool)
 | 0, _, _, _, _, _, _, _, _, _, _, _, _, _ => none
 | k + 1, x1, x2, x3, x4, x5, x27, x433000, x433001, x433002, x433003, x433004, x433005, x433006 => if x27 = true then (some true) else ((fresh_Use.f k x433000 x433001 x433002 x433003 x433004 x433005 x433006 x1 x2 x3 x4 x5).bind fun t437 => ((pantrymade_Site.f x433000 x433001 x433002 x433003 x433004 x433005 x433006).bind fun bt438 => ((pantrymade_Fields.f k x1).bind fun t447 => ((pantrymade_Fields.f k x2).bind fun t450 => ((pantryref12_Use.f k bt438.1 bt438.2.1 bt438.2.2.1 bt438.2.2.2.1 bt438.2.2.2.2.1 bt438.2.2.2.2.2.1 bt438.2.2.2.2.2.2 t447 t450 x3 x4 x5).bind fun t453 => (some (t437 == t453)))))))
def pantrylaw12_FreshUses.f (k : Nat) (a0_0 : ByteArray) (a0_1 : Int) (a0_2 : Int) (a0_3 : Int) (a0_4 : Bool) (a0_5 : Bool) (l0_6 : List ByteArray) (l1 : List (S46)) (l2 : List (S46)) (a3 : Int) (a4 : Int) (a5 : Int) : Option (Bool) := (pantrylaw12_anchor.f k).bind fun t433 => (if t433 = true then ((pantrylaw12_fit.f k a0_0 a0_1 a0_2 a0_3 a0_4 a0_5 l0_6).bind fun t434 => (if t434 = true then ((pantrylaw12_small.f k l2).bind fun t435 => (if t435 = true then ((pantrylaw12_small.f k l1).bind fun t436 => (pantrylaw12_FreshUses.j0 k l1 l2 a3 a4 a5 (!t436) a0_0 a0_1 a0_2 a0_3 a0_4 a0_5 l0_6)) else (pantrylaw12_FreshUses.j0 k l1 l2 a3 a4 a5 true a0_0 a0_1 a0_2 a0_3 a0_4 a0_5 l0_6))) else (pantrylaw12_FreshUses.j0 k l1 l2 a3 a4 a5 true a0_0 a0_1 a0_2 a0_3 a0_4 a0_5 l0_6))) else (none))
theorem pantrylaw12_FreshUses.mono_l : ∀ k, (∀ y0 y1 y2 y3 y4 y5 y6 y7 y8 y9 y10 y11 y12, LeO (pantrylaw12_FreshUses.j0 k y0 y1 y2 y3 y4 y5 y6 y7 y8 y9 y10 y11 y12) (pantrylaw12_FreshUses.j0 (k + 1) y0 y1 y2 y3 y4 y5 y6 y7 y8 y9 y10 y11 y12))
 | 0 => fun _ _ _ _ _ _ _ _ _ _ _ _ _ r h => by simp [pantrylaw12_FreshUses.j0] at h
 | k + 1 => by
  have ih0 := pantrylaw12_FreshUses.mono_l k
  ·
   intro y0 y1 y2 y3 y4 y5 y6 y7 y8 y9 y10 y11 y12
   unfold pantrylaw12_FreshUses.j0
   repeat' (with_reducible first | exact ih0 _ _ _ _ _ _ _ _ _ _ _ _ _ | exact fresh_Use.mono _ _ _ _ _ _ _ _ _ _ _ _ _ | exact pantrylaw12_anchor.mono _ | exact pantrylaw12_fit.mono _ _ _ _ _ _ _ _ | exact pantrylaw12_small.mono _ _ | exact pantrymade_Fields.mono _ _ | exact pantryref12_Use.mono _ _ _ _ _ _ _ _ _ _ _ _ _ | exact lR_ | refine LeO.ite ?_ ?_ | refine LeO.bind ?_ (fun _ => ?_))
theorem pantrylaw12_FreshUses.mono : ∀ a0 a1 a2 a3 a4 a5 a6 a7 a8 a9 a10 a11 k, LeO (pantrylaw12_FreshUses.f k a0 a1 a2 a3 a4 a5 a6 a7 a8 a9 a10 a11) (pantrylaw12_FreshUses.f (k + 1) a0 a1 a2 a3 a4 a5 a6 a7 a8 a9 a10 a11) := by
 intro a0 a1 a2 a3 a4 a5 a6 a7 a8 a9 a10 a11 k
 have ih0 := pantrylaw12_FreshUses.mono_l k
 unfold pantrylaw12_FreshUses.f
 repeat' (with_reducible first | exact ih0 _ _ _ _ _ _ _ _ _ _ _ _ _ | exact fresh_Use.mono _ _ _ _ _ _ _ _ _ _ _ _ _ | exact pantrylaw12_anchor.mono _ | exact pantrylaw12_fit.mono _ _ _ _ _ _ _ _ | exact pantrylaw12_small.mono _ _ | exact pantrymade_Fields.mono _ _ | exact pantryref12_Use.mono _ _ _ _ _ _ _ _ _ _ _ _ _ | exact lR_ | refine LeO.ite ?_ ?_ | refine LeO.bind ?_ (fun _ => ?_))
def pantrylaw12_FreshUses.T5 : Bool × List (List Nat × List Nat) := (true, [([], []), ([], []), ([], []), ([], []), ([], []), ([], []), ([0, 1, 2, 3, 4, 5], [0, 1, 2, 3, 4, 5]), ([], []), ([7, 6], [7]), ([], []), ([9, 8], [9]), ([], []), ([11, 10], [11]), ([], []), ([], []), ([], []), ([8, 10, 12, 13, 14, 15, 12], [8, 10, 12, 13, 14, 15]), ([6, 16], [6, 16]), ([17, 16, 0, 1, 2, 3, 4, 5, 6, 7, 8, 9, 10, 11, 12, 13, 14, 15, 16, 17], [17])])
def pantrylaw12_FreshUses.B5 : List Nat := [0, 0, 0, 0, 0, 0, 63, 0, 255, 0, 1023, 0, 4095, 0, 0, 0, 65535, 131071, 262143]
theorem pantrylaw12_FreshUses.tab5 : rtab .any (opsOf Tryz.f5 5) = pantrylaw12_FreshUses.T5 := by kernel_rfl
theorem pantrylaw12_FreshUses.bits5 : waitsOk pantrylaw12_FreshUses.T5.2 pantrylaw12_FreshUses.B5 = true := by kernel_rfl
set_option maxHeartbeats 8000000 in
set_option maxRecDepth 100000 in
theorem pantrylaw12_FreshUses.calls (k : Nat) (a0_0 : ByteArray) (a0_1 : Int) (a0_2 : Int) (a0_3 : Int) (a0_4 : Bool) (a0_5 : Bool) (A0_6 : Option Addr) (c0_6 : Nat) (l0_6 : List ByteArray) (A1 : Option Addr) (c1 : Nat) (l1 : List (S46)) (A2 : Option Addr) (c2 : Nat) (l2 : List (S46)) (a3 : Int) (a4 : Int) (a5 : Int) (r : Bool) (w : World) (hr0_6 : Kd.C Kd.string w A0_6 l0_6.length l0_6) (hc0_6 : l0_6.length ≤ c0_6) (hr1 : Kd.C k46 w A1 l1.length l1) (hc1 : l1.length ≤ c1) (hr2 : Kd.C k46 w A2 l2.length l2) (hc2 : l2.length ≤ c2) (hrW : WF w) (h : pantrylaw12_FreshUses.f k a0_0 a0_1 a0_2 a0_3 a0_4 a0_5 l0_6 l1 l2 a3 a4 a5 = some r) :
  Calls Tryz.prog 5 #[.agg #[.string a0_0, .int .i64 a0_1, .int .i64 a0_2, .int .i64 a0_3, .bool a0_4, .bool a0_5, .slice A0_6 l0_6.length c0_6], .slice A1 l1.length c1, .slice A2 l2.length c2, .int .i64 a3, .int .i64 a4, .int .i64 a5] w fun e w' => e = .returned (.bool r) ∧ Below w.heap.size w w' := by
 have hu24 := Tryz.underlying24
 have HRW := Aside0.mk hrW
 clear hrW
 have HR0_6 := Aside0.mk hr0_6
 have HC0_6 := Aside0.mk hc0_6
 clear hr0_6 hc0_6
 have HR1 := Aside0.mk hr1
 have HC1 := Aside0.mk hc1
 clear hr1 hc1
 have HR2 := Aside0.mk hr2
 have HC2 := Aside0.mk hc2
 clear hr2 hc2
 have HB := Aside0.mk (Below.refl w.heap.size w)
 have H : ((pantrylaw12_anchor.f k).bind fun t433 => (if t433 = true then ((pantrylaw12_fit.f k a0_0 a0_1 a0_2 a0_3 a0_4 a0_5 l0_6).bind fun t434 => (if t434 = true then ((pantrylaw12_small.f k l2).bind fun t435 => (if t435 = true then ((pantrylaw12_small.f k l1).bind fun t436 => (pantrylaw12_FreshUses.j0 k l1 l2 a3 a4 a5 (!t436) a0_0 a0_1 a0_2 a0_3 a0_4 a0_5 l0_6)) else (pantrylaw12_FreshUses.j0 k l1 l2 a3 a4 a5 true a0_0 a0_1 a0_2 a0_3 a0_4 a0_5 l0_6))) else (pantrylaw12_FreshUses.j0 k l1 l2 a3 a4 a5 true a0_0 a0_1 a0_2 a0_3 a0_4 a0_5 l0_6))) else (none))) = some r := h
 clear h
 obtain ⟨t433, A7, H⟩ := bS_ H
 try dsimp only at H
 by_cases c8 : t433 = true
 ·
  subst c8
  rw [if_pos rfl] at H
  have HC9 := Aside0.mk H
  clear H
  go_enter Tryz.func5, Tryz.ntmps5
  go_upto_region 3 with (first | ((with_reducible refine gate_dst (N := 6) rfl ?_); refine box_event ?hg (N := 6) ?hd (cs := #[.string a0_0, .int .i64 a0_1, .int .i64 a0_2, .int .i64 a0_3, .bool a0_4, .bool a0_5, .slice A0_6 l0_6.length c0_6]) (t := 24) ?hr ?_; (case hd | hg => rfl); (case hr => exact S1_); intro gb432 hg w10 hbox hb; have BK432 := Aside0.mk (hbox); have GW432 := Aside0.mk ((Z1_ : w.heap.size ≤ gb432)); have GE432 := Aside0.mk ((Z1_ : w.heap.size ≤ gb432)); replace HB := y1_ hb; clear hb hbox hg) | ((with_reducible refine gate_callee (f := 10) rfl ?_); refine goesL_ (some 13) rfl rfl Tryz.func10 (by kernel_rfl) rfl #[] rfl T1_ ?_; (with_reducible refine (pantrylaw12_anchor.calls k  true _ ?side1 A7.out).mono ?_); (case side1 => exact C1_ ((WF.below HRW.out HB.out))); rintro e w11 ⟨rfl, hb⟩; refine ⟨_, rfl, ?_⟩; replace BK432 := yB_ BK432 hb; replace HB := y2_ hb; (try clear hb)))
  (try simp only [Act.put, sA_, sZ_, sS_])
  go_cut [27] (fun v27 wc => ∃ (kq : Nat) (x27_8 : Bool), v27 = .bool x27_8 ∧ Aside0 (pantrylaw12_FreshUses.j0 kq l1 l2 a3 a4 a5 x27_8 a0_0 a0_1 a0_2 a0_3 a0_4 a0_5 l0_6 = some r) ∧ Aside0 (kq ≤ k) ∧ Aside0 (wc.heap[gb432]? = some (.cells #[.string a0_0, .int .i64 a0_1, .int .i64 a0_2, .int .i64 a0_3, .bool a0_4, .bool a0_5, (.slice A0_6 l0_6.length c0_6)] 24 (0, 0))) ∧ Aside0 (Below w.heap.size w wc))
  case first =>
   have H := HC9.out
   clear HC9
   obtain ⟨t434, A12, H⟩ := bS_ H
   try dsimp only at H
   by_cases c13 : t434 = true
   ·
    subst c13
    rw [if_pos rfl] at H
    obtain ⟨t435, A14, H⟩ := bS_ H
    try dsimp only at H
    by_cases c15 : t435 = true
    ·
     subst c15
     rw [if_pos rfl] at H
     obtain ⟨t436, A16, H⟩ := bS_ H
     try dsimp only at H
     have H' := Aside0.mk H
     clear H
     obtain ⟨z17_0, z17_1, z17_2, z17_3, z17_4, z17_5, z17_6, y17_0, y17_1, y17_2, y17_3, y17_4, y17_5, y17_6⟩ := cz7_ BK432.out
     go_wp2_with (first | ((with_reducible refine gate_callee (f := 11) rfl ?_); refine goesL_ (some 16) rfl rfl Tryz.func11 (by kernel_rfl) rfl #[.agg #[.string a0_0, .int .i64 a0_1, .int .i64 a0_2, .int .i64 a0_3, .bool a0_4, .bool a0_5, .slice A0_6 l0_6.length c0_6]] rfl T1_ ?_; (with_reducible refine (pantrylaw12_fit.calls k a0_0 a0_1 a0_2 a0_3 a0_4 a0_5 (fun k_ => k_ < w.heap.size) _ _ l0_6 true _ ?side1 A12.out).mono ?_); (case side1 => exact Kd.V_mk HC0_6.out (Kd.F_below (Kd.C_F Kd.heap_string HR0_6.out) W2_)); rintro e w18 ⟨rfl, hb⟩; refine ⟨_, rfl, ?_⟩; replace BK432 := yB_ BK432 hb; replace HB := y2_ hb; (try clear hb)) | (go_at_call 12; (with_reducible refine (pantrylaw12_small.calls k _ _ l2 true _ ?side1 ?side2 A14.out).mono ?_); (case side1 => exact C1_ ((Kd.C_below HR2.out HB.out))); (case side2 => exact HC2.out); rintro e w19 ⟨rfl, hb⟩; replace BK432 := yB_ BK432 hb; replace HB := y2_ hb; (try clear hb)) | (go_at_call 12; (with_reducible refine (pantrylaw12_small.calls k _ _ l1 t436 _ ?side1 ?side2 A16.out).mono ?_); (case side1 => exact C1_ ((Kd.C_below HR1.out HB.out))); (case side2 => exact HC1.out); rintro e w20 ⟨rfl, hb⟩; replace BK432 := yB_ BK432 hb; replace HB := y2_ hb; (try clear hb)))
     go_meet
     case rel => exact ⟨_, (!t436), E3_, H', ⟨by first | omega | exact Nat.le_refl _⟩, ⟨B1_ BK432.out⟩, ⟨W2_⟩⟩
    ·
     replace c15 := Bool.eq_false_iff.mpr c15
     subst c15
     rw [if_neg (show ¬ (false = true) by decide)] at H
     have H' := Aside0.mk H
     clear H
     obtain ⟨z21_0, z21_1, z21_2, z21_3, z21_4, z21_5, z21_6, y21_0, y21_1, y21_2, y21_3, y21_4, y21_5, y21_6⟩ := cz7_ BK432.out
     go_wp2_with (first | ((with_reducible refine gate_callee (f := 11) rfl ?_); refine goesL_ (some 16) rfl rfl Tryz.func11 (by kernel_rfl) rfl #[.agg #[.string a0_0, .int .i64 a0_1, .int .i64 a0_2, .int .i64 a0_3, .bool a0_4, .bool a0_5, .slice A0_6 l0_6.length c0_6]] rfl T1_ ?_; (with_reducible refine (pantrylaw12_fit.calls k a0_0 a0_1 a0_2 a0_3 a0_4 a0_5 (fun k_ => k_ < w.heap.size) _ _ l0_6 true _ ?side1 A12.out).mono ?_); (case side1 => exact Kd.V_mk HC0_6.out (Kd.F_below (Kd.C_F Kd.heap_string HR0_6.out) W2_)); rintro e w22 ⟨rfl, hb⟩; refine ⟨_, rfl, ?_⟩; replace BK432 := yB_ BK432 hb; replace HB := y2_ hb; (try clear hb)) | (go_at_call 12; (with_reducible refine (pantrylaw12_small.calls k _ _ l2 false _ ?side1 ?side2 A14.out).mono ?_); (case side1 => exact C1_ ((Kd.C_below HR2.out HB.out))); (case side2 => exact HC2.out); rintro e w23 ⟨rfl, hb⟩; replace BK432 := yB_ BK432 hb; replace HB := y2_ hb; (try clear hb)))
     go_meet
     case rel => exact ⟨_, (true), E3_, H', ⟨by first | omega | exact Nat.le_refl _⟩, ⟨B1_ BK432.out⟩, ⟨W2_⟩⟩
   ·
    replace c13 := Bool.eq_false_iff.mpr c13
    subst c13
    rw [if_neg (show ¬ (false = true) by decide)] at H
    have H' := Aside0.mk H
    clear H
    obtain ⟨z24_0, z24_1, z24_2, z24_3, z24_4, z24_5, z24_6, y24_0, y24_1, y24_2, y24_3, y24_4, y24_5, y24_6⟩ := cz7_ BK432.out
    go_wp2_with (first | ((with_reducible refine gate_callee (f := 11) rfl ?_); refine goesL_ (some 16) rfl rfl Tryz.func11 (by kernel_rfl) rfl #[.agg #[.string a0_0, .int .i64 a0_1, .int .i64 a0_2, .int .i64 a0_3, .bool a0_4, .bool a0_5, .slice A0_6 l0_6.length c0_6]] rfl T1_ ?_; (with_reducible refine (pantrylaw12_fit.calls k a0_0 a0_1 a0_2 a0_3 a0_4 a0_5 (fun k_ => k_ < w.heap.size) _ _ l0_6 false _ ?side1 A12.out).mono ?_); (case side1 => exact Kd.V_mk HC0_6.out (Kd.F_below (Kd.C_F Kd.heap_string HR0_6.out) W2_)); rintro e w25 ⟨rfl, hb⟩; refine ⟨_, rfl, ?_⟩; replace BK432 := yB_ BK432 hb; replace HB := y2_ hb; (try clear hb)))
    go_meet
    case rel => exact ⟨_, (true), E3_, H', ⟨by first | omega | exact Nat.le_refl _⟩, ⟨B1_ BK432.out⟩, ⟨W2_⟩⟩
  case rest =>
   clear HC9
   (try clear c1); (try clear c2); (try clear c8); (try clear c13); (try clear c15); (try clear z17_0 z17_1 z17_2 z17_3 z17_4 z17_5 z17_6 y17_0 y17_1 y17_2 y17_3 y17_4 y17_5 y17_6); (try clear z21_0 z21_1 z21_2 z21_3 z21_4 z21_5 z21_6 y21_0 y21_1 y21_2 y21_3 y21_4 y21_5 y21_6); (try clear z24_0 z24_1 z24_2 z24_3 z24_4 z24_5 z24_6 y24_0 y24_1 y24_2 y24_3 y24_4 y24_5 y24_6)
   obtain ⟨kq, x27_8, rfl, HA, HJ8, BK432, HB⟩ := hcut
   cases kq with
   | zero => exact absurd HA.out (by simp [pantrylaw12_FreshUses.j0])
   | succ kj8 =>
    have H := HA.out
    clear HA
    simp only [pantrylaw12_FreshUses.j0] at H
    by_cases c26 : x27_8 = true
    ·
     subst c26
     rw [if_pos rfl] at H
     obtain rfl := Option.some.inj H
     go_wp2
     go_ret
     exact ⟨E1_, W2_⟩
    ·
     replace c26 := Bool.eq_false_iff.mpr c26
     subst c26
     rw [if_neg (show ¬ (false = true) by decide)] at H
     obtain ⟨t437, A27, H⟩ := bS_ H
     try dsimp only at H
     obtain ⟨⟨t438, t439, t440, t441, t442, t443, t444⟩, A28, H⟩ := bS_ H
     try dsimp only at H
     obtain ⟨t447, A29, H⟩ := bS_ H
     try dsimp only at H
     obtain ⟨t450, A30, H⟩ := bS_ H
     try dsimp only at H
     obtain ⟨t453, A31, H⟩ := bS_ H
     try dsimp only at H
     obtain rfl := Option.some.inj H
     try go_wp2
     have n0_ := Aside0.mk (bD_ BK432.out)
     have n1_ := Aside0.mk (zD_ HB.out)
     clear BK432
     clear HB
     have BK432 := n0_
     have HB := n1_
     clear n0_ n1_
     refine start_ (n := 19) (S := fun w' => w'.cell? ⟨gb432, 0, none⟩ = some (.string a0_0) ∧ w'.cell? ⟨gb432, 1, none⟩ = some (.int .i64 a0_1) ∧ w'.cell? ⟨gb432, 2, none⟩ = some (.int .i64 a0_2) ∧ w'.cell? ⟨gb432, 3, none⟩ = some (.int .i64 a0_3) ∧ w'.cell? ⟨gb432, 4, none⟩ = some (.bool a0_4) ∧ w'.cell? ⟨gb432, 5, none⟩ = some (.bool a0_5) ∧ w'.cell? ⟨gb432, 6, none⟩ = some (.slice A0_6 l0_6.length c0_6)) (ds := []) #[false, false, false, false, false, false, false, false, false, false, false, false, false, false, false, false, false, false, false] (by kernel_rfl) rfl rfl ⟨xC_ BK432.out 0, xC_ BK432.out 1, xC_ BK432.out 2, xC_ BK432.out 3, xC_ BK432.out 4, xC_ BK432.out 5, xC_ BK432.out 6⟩ (fun hHeld => ?_); refine with_tabW pantrylaw12_FreshUses.tab5 pantrylaw12_FreshUses.bits5 (fun HT_ HW_ => ?_)
     generalize wc.drew = w32 at BK432 HB hHeld ⊢
     refine pure_ (i := 1) (N := some 29) (v := ?_) (a' := ?_) #[false, true, false, false, false, false, false, false, false, false, false, false, false, false, false, false, false, false, false] rfl rfl (any_of HT_.out (by kernel_rfl)) (fun _ _ _ h => h) (Or.inl ⟨by rfl, ?_⟩) ?_ ?_
     rotate_left
     ·
      intro w'
      go_simp
      with_reducible rfl
     rotate_left
     ·
      simp only [Act.put, sA_, sZ_, sS_, i64_w, i32_w]
      rfl
     refine pure_ (i := 2) (N := some 30) (v := ?_) (a' := ?_) #[false, true, true, false, false, false, false, false, false, false, false, false, false, false, false, false, false, false, false] rfl rfl (any_of HT_.out (by kernel_rfl)) (fun _ _ _ h => h) (Or.inl ⟨by rfl, ?_⟩) ?_ ?_
     rotate_left
     ·
      intro w'
      go_simp
      with_reducible rfl
     rotate_left
     ·
      simp only [Act.put, sA_, sZ_, sS_, i64_w, i32_w]
      rfl
     refine pure_ (i := 3) (N := some 31) (v := ?_) (a' := ?_) #[false, true, true, true, false, false, false, false, false, false, false, false, false, false, false, false, false, false, false] rfl rfl (any_of HT_.out (by kernel_rfl)) (fun _ _ _ h => h) (Or.inl ⟨by rfl, ?_⟩) ?_ ?_
     rotate_left
     ·
      intro w'
      go_simp
      with_reducible rfl
     rotate_left
     ·
      simp only [Act.put, sA_, sZ_, sS_, i64_w, i32_w]
      rfl
     refine pure_ (i := 4) (N := some 32) (v := ?_) (a' := ?_) #[false, true, true, true, true, false, false, false, false, false, false, false, false, false, false, false, false, false, false] rfl rfl (any_of HT_.out (by kernel_rfl)) (fun _ _ _ h => h) (Or.inl ⟨by rfl, ?_⟩) ?_ ?_
     rotate_left
     ·
      intro w'
      go_simp
      with_reducible rfl
     rotate_left
     ·
      simp only [Act.put, sA_, sZ_, sS_, i64_w, i32_w]
      rfl
     refine pure_ (i := 5) (N := some 33) (v := ?_) (a' := ?_) #[false, true, true, true, true, true, false, false, false, false, false, false, false, false, false, false, false, false, false] rfl rfl (any_of HT_.out (by kernel_rfl)) (fun _ _ _ h => h) (Or.inl ⟨by rfl, ?_⟩) ?_ ?_
     rotate_left
     ·
      intro w'
      go_simp
      with_reducible rfl
     rotate_left
     ·
      simp only [Act.put, sA_, sZ_, sS_, i64_w, i32_w]
      rfl
     refine pure_ (i := 9) (N := some 37) (v := ?_) (a' := ?_) #[false, true, true, true, true, true, false, false, false, true, false, false, false, false, false, false, false, false, false] rfl rfl (any_of HT_.out (by kernel_rfl)) (fun _ _ _ h => h) (Or.inl ⟨by rfl, ?_⟩) ?_ ?_
     rotate_left
     ·
      intro w'
      go_simp
      with_reducible rfl
     rotate_left
     ·
      simp only [Act.put, sA_, sZ_, sS_, i64_w, i32_w]
      rfl
     refine pure_ (i := 11) (N := some 39) (v := ?_) (a' := ?_) #[false, true, true, true, true, true, false, false, false, true, false, true, false, false, false, false, false, false, false] rfl rfl (any_of HT_.out (by kernel_rfl)) (fun _ _ _ h => h) (Or.inl ⟨by rfl, ?_⟩) ?_ ?_
     rotate_left
     ·
      intro w'
      go_simp
      with_reducible rfl
     rotate_left
     ·
      simp only [Act.put, sA_, sZ_, sS_, i64_w, i32_w]
      rfl
     refine pure_ (i := 13) (N := some 41) (v := ?_) (a' := ?_) #[false, true, true, true, true, true, false, false, false, true, false, true, false, true, false, false, false, false, false] rfl rfl (any_of HT_.out (by kernel_rfl)) (fun _ _ _ h => h) (Or.inl ⟨by rfl, ?_⟩) ?_ ?_
     rotate_left
     ·
      intro w'
      go_simp
      with_reducible rfl
     rotate_left
     ·
      simp only [Act.put, sA_, sZ_, sS_, i64_w, i32_w]
      rfl
     refine pure_ (i := 14) (N := some 42) (v := ?_) (a' := ?_) #[false, true, true, true, true, true, false, false, false, true, false, true, false, true, true, false, false, false, false] rfl rfl (any_of HT_.out (by kernel_rfl)) (fun _ _ _ h => h) (Or.inl ⟨by rfl, ?_⟩) ?_ ?_
     rotate_left
     ·
      intro w'
      go_simp
      with_reducible rfl
     rotate_left
     ·
      simp only [Act.put, sA_, sZ_, sS_, i64_w, i32_w]
      rfl
     refine pure_ (i := 15) (N := some 43) (v := ?_) (a' := ?_) #[false, true, true, true, true, true, false, false, false, true, false, true, false, true, true, true, false, false, false] rfl rfl (any_of HT_.out (by kernel_rfl)) (fun _ _ _ h => h) (Or.inl ⟨by rfl, ?_⟩) ?_ ?_
     rotate_left
     ·
      intro w'
      go_simp
      with_reducible rfl
     rotate_left
     ·
      simp only [Act.put, sA_, sZ_, sS_, i64_w, i32_w]
      rfl
     refine take_ (i := 0) (N := some 28) (v := ?_) (a' := ?_) #[true, true, true, true, true, true, false, false, false, true, false, true, false, true, true, true, false, false, false] rfl rfl (take_ofW HT_.out HW_.out (by kernel_rfl)) (fun _ _ _ h => h) (Or.inl ⟨by rfl, ?_⟩) hHeld ?_ ?_
     rotate_left
     ·
      rintro w' ⟨s0, s1, s2, s3, s4, s5, s6⟩
      go_simp
      with_reducible rfl
     rotate_left
     ·
      simp only [Act.put, sA_, sZ_, sS_, i64_w, i32_w]
      rfl
     refine take_ (i := 7) (N := some 35) (v := ?_) (a' := ?_) #[true, true, true, true, true, true, false, true, false, true, false, true, false, true, true, true, false, false, false] rfl rfl (take_ofW HT_.out HW_.out (by kernel_rfl)) (fun _ _ _ h => h) (Or.inl ⟨by rfl, ?_⟩) hHeld ?_ ?_
     rotate_left
     ·
      rintro w' ⟨s0, s1, s2, s3, s4, s5, s6⟩
      go_simp
      with_reducible rfl
     rotate_left
     ·
      simp only [Act.put, sA_, sZ_, sS_, i64_w, i32_w]
      rfl
     refine one_ (i := 6) (N := some 34) #[true, true, true, true, true, true, true, true, false, true, false, true, false, true, true, true, false, false, false] rfl rfl (one_of HT_.out (by kernel_rfl)) (by decide) (fun K hK => ?_)
     refine goes_ Tryz.func21 (by kernel_rfl) rfl #[.agg #[.string a0_0, .int .i64 a0_1, .int .i64 a0_2, .int .i64 a0_3, .bool a0_4, .bool a0_5, .slice A0_6 l0_6.length c0_6], .slice A1 l1.length c1, .slice A2 l2.length c2, .int .i64 a3, .int .i64 a4, .int .i64 a5] (by rfl) rfl rfl T1_ ?_
     with_reducible refine (fresh_Use.calls kj8 a0_0 a0_1 a0_2 a0_3 a0_4 a0_5 _ _ l0_6 _ _ l1 _ _ l2 a3 a4 a5 t437 _ ?side1 ?side2 ?side3 ?side4 ?side5 ?side6 ?side7 A27.out).mono ?_
     (case side1 => exact C1_ ((Kd.C_below HR0_6.out HB.out)))
     (case side2 => exact HC0_6.out)
     (case side3 => exact C1_ ((Kd.C_below HR1.out HB.out)))
     (case side4 => exact HC1.out)
     (case side5 => exact C1_ ((Kd.C_below HR2.out HB.out)))
     (case side6 => exact HC2.out)
     (case side7 => exact C1_ ((WF.below HRW.out HB.out)))
     rintro e w33 ⟨rfl, hb⟩
     refine ⟨_, rfl, ?_⟩
     have n0_ := Aside0.mk (blk_below (B1_ BK432.out) hb)
     have n1_ := Aside0.mk (below_step W2_ hb)
     clear BK432
     clear HB
     have BK432 := n0_
     have HB := n1_
     clear n0_ n1_
     (try clear hb)
     (try clear hb2)
     (try clear hk)
     (try clear hi)
     refine hK.out _ _ ⟨xC_ BK432.out 0, xC_ BK432.out 1, xC_ BK432.out 2, xC_ BK432.out 3, xC_ BK432.out 4, xC_ BK432.out 5, xC_ BK432.out 6⟩ (fun hHeld => ?_)
     clear hK K
     refine norm_ (a' := ?_) ?_ ?_
     rotate_left
     ·
      show Act.put _ (some 34) _ = _
      simp only [Act.put, sA_, sZ_, sS_, i64_w, i32_w]
      rfl
     refine one_ (i := 8) (N := some 36) #[true, true, true, true, true, true, true, true, true, true, false, true, false, true, true, true, false, false, false] rfl rfl (one_of HT_.out (by kernel_rfl)) (by decide) (fun K hK => ?_)
     refine goes_ Tryz.func15 (by kernel_rfl) rfl #[.agg #[.string a0_0, .int .i64 a0_1, .int .i64 a0_2, .int .i64 a0_3, .bool a0_4, .bool a0_5, .slice A0_6 l0_6.length c0_6]] (by rfl) rfl rfl T1_ ?_
     with_reducible refine (pantrymade_Site.calls a0_0 a0_1 a0_2 a0_3 a0_4 a0_5 (fun k_ => k_ < w.heap.size) _ _ l0_6 t438 t439 t440 t441 t442 t443 t444 _ ?side1 A28.out).mono ?_
     (case side1 => exact Kd.V_mk HC0_6.out (Kd.F_below (Kd.C_F Kd.heap_string HR0_6.out) W2_))
     rintro e w34 ⟨v445, rfl, ho0, hb⟩
     refine ⟨_, rfl, ?_⟩
     have n0_ := Aside0.mk (Kd.V_lower (Kd.V_mono (ok' := fun k_ => k_ ≠ gb432) ho0 (fun k_ hk_ => Or.elim hk_ (fun hs_ => fun e_ => Nat.not_le.2 hs_ (by rw [e_]; exact GW432.out)) (fun hn_ => (Kd.freshB (g := gb432) (o := .cells #[.string a0_0, .int .i64 a0_1, .int .i64 a0_2, .int .i64 a0_3, .bool a0_4, .bool a0_5, .slice A0_6 l0_6.length c0_6] 24 (0, 0)) (B1_ BK432.out) k_ hn_)))) (below_size W2_))
     have n1_ := Aside0.mk (blk_below (B1_ BK432.out) hb)
     have n2_ := Aside0.mk (below_step W2_ hb)
     clear BK432
     clear HB
     have HO446 := n0_
     have BK432 := n1_
     have HB := n2_
     clear n0_ n1_ n2_
     (try clear hb)
     (try clear hb2)
     (try clear hk)
     (try clear hi)
     (try clear ho0)
     refine hK.out _ _ ⟨xC_ BK432.out 0, xC_ BK432.out 1, xC_ BK432.out 2, xC_ BK432.out 3, xC_ BK432.out 4, xC_ BK432.out 5, xC_ BK432.out 6⟩ (fun hHeld => ?_)
     clear hK K
     refine norm_ (a' := ?_) ?_ ?_
     rotate_left
     ·
      show Act.put _ (some 36) _ = _
      simp only [Act.put, sA_, sZ_, sS_, i64_w, i32_w]
      rfl
     refine one_ (i := 10) (N := some 38) #[true, true, true, true, true, true, true, true, true, true, true, true, false, true, true, true, false, false, false] rfl rfl (one_of HT_.out (by kernel_rfl)) (by decide) (fun K hK => ?_)
     refine goes_ Tryz.func16 (by kernel_rfl) rfl #[.slice A1 l1.length c1] (by rfl) rfl rfl T1_ ?_
     with_reducible refine (pantrymade_Fields.calls kj8 _ _ l1 t447 _ ?side1 ?side2 A29.out).mono ?_
     (case side1 => exact C1_ ((Kd.C_below HR1.out HB.out)))
     (case side2 => exact HC1.out)
     rintro e w35 ⟨v448, rfl, ho0, hb⟩
     refine ⟨_, rfl, ?_⟩
     have n0_ := Aside0.mk (Kd.V_elder' (by (with_reducible repeat (first | apply Kd.V_alloc | apply Kd.V_drewN | apply Kd.V_drew)); exact HO446.out) (Kd.R_base ho0) hb)
     have n1_ := Aside0.mk (Kd.R_lower ho0 (below_size W2_))
     have n2_ := Aside0.mk (blk_below (B1_ BK432.out) hb)
     have n3_ := Aside0.mk (below_step W2_ hb)
     clear HO446
     clear BK432
     clear HB
     have HO446 := n0_
     have HO449 := n1_
     have BK432 := n2_
     have HB := n3_
     clear n0_ n1_ n2_ n3_
     (try clear hb)
     (try clear hb2)
     (try clear hk)
     (try clear hi)
     (try clear ho0)
     refine hK.out _ _ ⟨xC_ BK432.out 0, xC_ BK432.out 1, xC_ BK432.out 2, xC_ BK432.out 3, xC_ BK432.out 4, xC_ BK432.out 5, xC_ BK432.out 6⟩ (fun hHeld => ?_)
     clear hK K
     refine norm_ (a' := ?_) ?_ ?_
     rotate_left
     ·
      show Act.put _ (some 38) _ = _
      simp only [Act.put, sA_, sZ_, sS_, i64_w, i32_w]
      rfl
     refine one_ (i := 12) (N := some 40) #[true, true, true, true, true, true, true, true, true, true, true, true, true, true, true, true, false, false, false] rfl rfl (one_of HT_.out (by kernel_rfl)) (by decide) (fun K hK => ?_)
     refine goes_ Tryz.func16 (by kernel_rfl) rfl #[.slice A2 l2.length c2] (by rfl) rfl rfl T1_ ?_
     with_reducible refine (pantrymade_Fields.calls kj8 _ _ l2 t450 _ ?side1 ?side2 A30.out).mono ?_
     (case side1 => exact C1_ ((Kd.C_below HR2.out HB.out)))
     (case side2 => exact HC2.out)
     rintro e w36 ⟨v451, rfl, ho0, hb⟩
     refine ⟨_, rfl, ?_⟩
     have n0_ := Aside0.mk (Kd.V_elder' (by (with_reducible repeat (first | apply Kd.V_alloc | apply Kd.V_drewN | apply Kd.V_drew)); exact HO446.out) (Kd.R_base ho0) hb)
     have n1_ := Aside0.mk (Kd.R_elder' (R1_ HO449.out) (Kd.R_base ho0) hb)
     have n2_ := Aside0.mk (Kd.R_lower (Kd.R_new' ho0 (Kd.R_lt (R1_ HO449.out))) (below_size W2_))
     have n3_ := Aside0.mk (blk_below (B1_ BK432.out) hb)
     have n4_ := Aside0.mk (below_step W2_ hb)
     clear HO446
     clear HO449
     clear BK432
     clear HB
     have HO446 := n0_
     have HO449 := n1_
     have HO452 := n2_
     have BK432 := n3_
     have HB := n4_
     clear n0_ n1_ n2_ n3_ n4_
     (try clear hb)
     (try clear hb2)
     (try clear hk)
     (try clear hi)
     (try clear ho0)
     obtain ⟨Ao37, co37, eo37⟩ := Kd.V_slice HO446.out
     (first | subst eo37 | (injection eo37 with f1_ f2_ f3_; have f4_ := f1_.symm; have f5_ := f3_.symm; clear f1_ f2_ f3_; subst f4_; subst f5_))
     obtain ⟨Ao38, co38, eo38⟩ := Kd.R_slice HO449.out
     (first | subst eo38 | (injection eo38 with f1_ f2_ f3_; have f4_ := f1_.symm; have f5_ := f3_.symm; clear f1_ f2_ f3_; subst f4_; subst f5_))
     obtain ⟨Ao39, co39, eo39⟩ := Kd.R_slice HO452.out
     (first | subst eo39 | (injection eo39 with f1_ f2_ f3_; have f4_ := f1_.symm; have f5_ := f3_.symm; clear f1_ f2_ f3_; subst f4_; subst f5_))
     refine hK.out _ _ ⟨xC_ BK432.out 0, xC_ BK432.out 1, xC_ BK432.out 2, xC_ BK432.out 3, xC_ BK432.out 4, xC_ BK432.out 5, xC_ BK432.out 6⟩ (fun hHeld => ?_)
     clear hK K
     refine norm_ (a' := ?_) ?_ ?_
     rotate_left
     ·
      show Act.put _ (some 40) _ = _
      simp only [Act.put, sA_, sZ_, sS_, i64_w, i32_w]
      rfl
     refine one_ (i := 16) (N := some 44) #[true, true, true, true, true, true, true, true, true, true, true, true, true, true, true, true, true, false, false] rfl rfl (one_of HT_.out (by kernel_rfl)) (by decide) (fun K hK => ?_)
     refine goes_ Tryz.func22 (by kernel_rfl) rfl #[.agg #[.string t438, .int .i64 t439, .int .i64 t440, .int .i64 t441, .bool t442, .bool t443, .slice Ao37 t444.length co37], .slice Ao38 t447.length co38, .slice Ao39 t450.length co39, .int .i64 a3, .int .i64 a4, .int .i64 a5] (by rfl) rfl rfl T1_ ?_
     with_reducible refine (pantryref12_Use.calls kj8 t438 t439 t440 t441 t442 t443 _ _ t444 _ _ t447 _ _ t450 a3 a4 a5 t453 _ ?side1 ?side2 ?side3 ?side4 ?side5 ?side6 A31.out).mono ?_
     (case side1 => exact C1_ ((Kd.V_reads' HO446.out).2.2))
     (case side2 => exact (Kd.V_reads' HO446.out).2.1)
     (case side3 => exact C1_ ((Kd.R_reads' HO449.out).2.2))
     (case side4 => exact (Kd.R_reads' HO449.out).2.1)
     (case side5 => exact C1_ ((Kd.R_reads' HO452.out).2.2))
     (case side6 => exact (Kd.R_reads' HO452.out).2.1)
     rintro e w40 ⟨rfl, hb⟩
     refine ⟨_, rfl, ?_⟩
     have n0_ := Aside0.mk (Kd.V_below (by (with_reducible repeat (first | apply Kd.V_alloc | apply Kd.V_drewN | apply Kd.V_drew)); exact HO446.out) hb)
     have n1_ := Aside0.mk (Kd.R_below (R1_ HO449.out) hb)
     have n2_ := Aside0.mk (Kd.R_below (R1_ HO452.out) hb)
     have n3_ := Aside0.mk (blk_below (B1_ BK432.out) hb)
     have n4_ := Aside0.mk (below_step W2_ hb)
     clear HO446
     clear HO449
     clear HO452
     clear BK432
     clear HB
     have HO446 := n0_
     have HO449 := n1_
     have HO452 := n2_
     have BK432 := n3_
     have HB := n4_
     clear n0_ n1_ n2_ n3_ n4_
     (try clear hb)
     (try clear hb2)
     (try clear hk)
     (try clear hi)
     refine hK.out _ _ ⟨xC_ BK432.out 0, xC_ BK432.out 1, xC_ BK432.out 2, xC_ BK432.out 3, xC_ BK432.out 4, xC_ BK432.out 5, xC_ BK432.out 6⟩ (fun hHeld => ?_)
     clear hK K
     refine norm_ (a' := ?_) ?_ ?_
     rotate_left
     ·
      show Act.put _ (some 44) _ = _
      simp only [Act.put, sA_, sZ_, sS_, i64_w, i32_w]
      rfl
     refine pure_ (i := 17) (N := some 45) (v := ?_) (a' := ?_) #[true, true, true, true, true, true, true, true, true, true, true, true, true, true, true, true, true, true, false] rfl rfl (any_of HT_.out (by kernel_rfl)) (fun _ _ _ h => h) (Or.inl ⟨by rfl, ?_⟩) ?_ ?_
     rotate_left
     ·
      intro w'
      go_simp
      with_reducible rfl
     rotate_left
     ·
      simp only [Act.put, sA_, sZ_, sS_, i64_w, i32_w]
      rfl
     refine pure_ (i := 18) (N := some 12) (v := ?_) (a' := ?_) #[true, true, true, true, true, true, true, true, true, true, true, true, true, true, true, true, true, true, true] rfl rfl (any_of HT_.out (by kernel_rfl)) (fun _ _ _ h => h) (Or.inl ⟨by rfl, ?_⟩) ?_ ?_
     rotate_left
     ·
      intro w'
      go_simp
      with_reducible rfl
     rotate_left
     ·
      simp only [Act.put, sA_, sZ_, sS_, i64_w, i32_w]
      rfl
     refine done_ (done_of HT_.out (by kernel_rfl)) ?_
     try go_wp2
     go_ret
     exact ⟨E1_, W2_⟩
 ·
  replace c8 := Bool.eq_false_iff.mpr c8
  subst c8
  rw [if_neg (show ¬ (false = true) by decide)] at H
  exact absurd H (by simp)

end Go.Proofs.YtgpekljckdgggaaGreatDoor.PAll
