import Derived.Test.YtlncpbnadlpihaaGreatDoorPAllx0
import Derived.Test.YtlncpbnadlpihaaGreatDoorPAllx3
import Derived.Test.YtlncpbnadlpihaaGreatDoorPAllx4
namespace Go.Proofs.YtlncpbnadlpihaaGreatDoor.PAll
open Go.RowKit Go.Proofs.YtlncpbnadlpihaaGreatDoorW.PrintWords Go.Proofs.YtlncpbnadlpihaaGreatDoorW.PrintLast Go.Proofs.YtlncpbnadlpihaaGreatDoorW.PrintMore
attribute [local go_sem] max2_int min2_int max_two min_two max_three min_three max_four min_four   -- for this text's walks alone
set_option linter.unusedVariables false
set_option linter.unusedSimpArgs false

/-! ### conf_head: function 54 -/
def conf_head.f (k : Nat) (a0 : ByteArray) : Option (Bool) := (sign_Token.f k a0).bind fun t118 => (if t118 = true then ((sign_Lower.f a0).bind fun t119 => (if t119.toList = a0.toList then (some (decide ((a0.size : Int) ≤ 64))) else (some false))) else (some false))
theorem conf_head.mono : ∀ a0 k, LeO (conf_head.f k a0) (conf_head.f (k + 1) a0) := by
 intro a0 k
 unfold conf_head.f
 repeat' (with_reducible first | exact sign_Token.mono _ _ | exact lR_ | refine LeO.ite ?_ ?_ | refine LeO.bind ?_ (fun _ => ?_))
set_option maxHeartbeats 8000000 in
set_option maxRecDepth 100000 in
theorem conf_head.calls (k : Nat) (a0 : ByteArray) (r : Bool) (w : World) (h : conf_head.f k a0 = some r) :
  Calls Tryz.prog 54 #[.string a0] w fun e w' => e = .returned (.bool r) ∧ Below w.heap.size w w' := by
 have HB := Aside0.mk (Below.refl w.heap.size w)
 have H : ((sign_Token.f k a0).bind fun t118 => (if t118 = true then ((sign_Lower.f a0).bind fun t119 => (if t119.toList = a0.toList then (some (decide ((a0.size : Int) ≤ 64))) else (some false))) else (some false))) = some r := h
 clear h
 obtain ⟨t118, A2, H⟩ := bS_ H
 try dsimp only at H
 by_cases c3 : t118 = true
 ·
  subst c3
  rw [if_pos rfl] at H
  obtain ⟨t119, A4, H⟩ := bS_ H
  try dsimp only at H
  by_cases c5 : t119.toList = a0.toList
  ·
   rw [if_pos c5] at H
   have c5b0 : (t119.toList == a0.toList) = true := beq_iff_eq.mpr c5
   have c5b1 : (t119.toList != a0.toList) = false := bne_eq_false_iff_eq.mpr c5
   clear c5
   obtain rfl := Option.some.inj H
   go_enter Tryz.func54, Tryz.ntmps54
   go_wp2_with (first | ((with_reducible refine gate_callee (f := 77) rfl ?_); refine goesL_ (some 4) rfl rfl Tryz.func77 (by kernel_rfl) rfl #[.string a0] rfl T1_ ?_; (with_reducible refine (sign_Token.calls k a0 true _ A2.out).mono ?_); rintro e w' ⟨rfl, ⟨nd, rfl⟩⟩; refine ⟨_, rfl, ?_⟩) | (go_at_call 74; (with_reducible refine (sign_Lower.calls a0 t119 _ A4.out).mono ?_); rintro e w6 ⟨rfl, hb⟩; replace HB := y1_ hb; (try clear hb)))
   go_ret
   exact ⟨E1_, W1_⟩
  ·
   rw [if_neg c5] at H
   have c5b0 : (t119.toList == a0.toList) = false := beq_eq_false_iff_ne.mpr c5
   have c5b1 : (t119.toList != a0.toList) = true := bne_iff_ne.mpr c5
   obtain rfl := Option.some.inj H
   go_enter Tryz.func54, Tryz.ntmps54
   go_wp2_with (first | ((with_reducible refine gate_callee (f := 77) rfl ?_); refine goesL_ (some 4) rfl rfl Tryz.func77 (by kernel_rfl) rfl #[.string a0] rfl T1_ ?_; (with_reducible refine (sign_Token.calls k a0 true _ A2.out).mono ?_); rintro e w' ⟨rfl, ⟨nd, rfl⟩⟩; refine ⟨_, rfl, ?_⟩) | (go_at_call 74; (with_reducible refine (sign_Lower.calls a0 t119 _ A4.out).mono ?_); rintro e w7 ⟨rfl, hb⟩; replace HB := y1_ hb; (try clear hb)))
   go_ret
   exact ⟨E1_, W1_⟩
 ·
  replace c3 := Bool.eq_false_iff.mpr c3
  subst c3
  rw [if_neg (show ¬ (false = true) by decide)] at H
  obtain rfl := Option.some.inj H
  go_enter Tryz.func54, Tryz.ntmps54
  go_wp2_with (first | ((with_reducible refine gate_callee (f := 77) rfl ?_); refine goesL_ (some 4) rfl rfl Tryz.func77 (by kernel_rfl) rfl #[.string a0] rfl T1_ ?_; (with_reducible refine (sign_Token.calls k a0 false _ A2.out).mono ?_); rintro e w' ⟨rfl, ⟨nd, rfl⟩⟩; refine ⟨_, rfl, ?_⟩))
  go_ret
  exact ⟨E1_, W1_⟩

/-! ### conf_Site_Right_1: function 53 -/
def conf_Site_Right_1.f (k : Nat) (a0 : ByteArray) : Option (Bool) := (conf_head.f k a0).bind fun t120 => (some (!t120))
theorem conf_Site_Right_1.mono : ∀ a0 k, LeO (conf_Site_Right_1.f k a0) (conf_Site_Right_1.f (k + 1) a0) := by
 intro a0 k
 unfold conf_Site_Right_1.f
 repeat' (with_reducible first | exact conf_head.mono _ _ | exact lR_ | refine LeO.ite ?_ ?_ | refine LeO.bind ?_ (fun _ => ?_))
set_option maxHeartbeats 8000000 in
set_option maxRecDepth 100000 in
theorem conf_Site_Right_1.calls (k : Nat) (a0 : ByteArray) (r : Bool) (w : World) (h : conf_Site_Right_1.f k a0 = some r) :
  Calls Tryz.prog 53 #[.string a0] w fun e w' => e = .returned (.bool r) ∧ Below w.heap.size w w' := by
 have HB := Aside0.mk (Below.refl w.heap.size w)
 have H : ((conf_head.f k a0).bind fun t120 => (some (!t120))) = some r := h
 clear h
 obtain ⟨t120, A2, H⟩ := bS_ H
 try dsimp only at H
 obtain rfl := Option.some.inj H
 go_enter Tryz.func53, Tryz.ntmps53
 go_wp2_with (first | ((with_reducible refine gate_callee (f := 54) rfl ?_); refine goesL_ (some 4) rfl rfl Tryz.func54 (by kernel_rfl) rfl #[.string a0] rfl T1_ ?_; (with_reducible refine (conf_head.calls k a0 t120 _ A2.out).mono ?_); rintro e w3 ⟨rfl, hb⟩; refine ⟨_, rfl, ?_⟩; replace HB := y1_ hb; (try clear hb)))
 go_ret
 exact ⟨E1_, W1_⟩

/-- Is there a head that may not be of a key? -/
def badHeads.f (k : Nat) (l : List ByteArray) : Option Bool := if l.length ≤ 1000000 ∧ (l.all fun x => (conf_Site_Right_1.f k x).isSome) = true then some (l.any fun x => (conf_Site_Right_1.f k x).getD false) else none
theorem badHeads.mono (l : List ByteArray) (k : Nat) : LeO (badHeads.f k l) (badHeads.f (k + 1) l) := by
 intro r h
 unfold badHeads.f at h ⊢
 by_cases hc : l.length ≤ 1000000 ∧ (l.all fun x => (conf_Site_Right_1.f k x).isSome) = true
 ·
  rw [if_pos hc] at h
  have hx : ∀ x ∈ l, conf_Site_Right_1.f (k + 1) x = conf_Site_Right_1.f k x := by
   intro x hx
   obtain ⟨y, hy⟩ := Option.isSome_iff_exists.1 (List.all_eq_true.1 hc.2 x hx)
   rw [hy]
   exact conf_Site_Right_1.mono x k y hy
  have h1 : (l.all fun x => (conf_Site_Right_1.f (k + 1) x).isSome) = true := List.all_eq_true.2 fun x hx' => by rw [hx x hx']; exact List.all_eq_true.1 hc.2 x hx'
  have h2 : (l.any fun x => (conf_Site_Right_1.f (k + 1) x).getD false) = l.any fun x => (conf_Site_Right_1.f k x).getD false := by
   rw [Bool.eq_iff_iff, List.any_eq_true, List.any_eq_true]
   constructor
   ·
    rintro ⟨x, hx', e⟩
    exact ⟨x, hx', by rw [← hx x hx']; exact e⟩
   ·
    rintro ⟨x, hx', e⟩
    exact ⟨x, hx', by rw [hx x hx']; exact e⟩
  rw [if_pos ⟨hc.1, h1⟩, h2]
  exact h
 ·
  rw [if_neg hc] at h
  cases h
theorem badHeads.calls (k : Nat) (A : Option Addr) (c : Nat) (l : List ByteArray) (r : Bool) (w : World) (hr : Kd.C Kd.string w A l.length l) (hc : l.length ≤ c) (h : badHeads.f k l = some r) :
  Calls Tryz.prog 52 #[.slice A l.length c, .func (.func 53) #[] #[]] w fun e w' => e = .returned (.bool r) ∧ Below w.heap.size w w' := by
 unfold badHeads.f at h
 by_cases hok : l.length ≤ 1000000 ∧ (l.all fun x => (conf_Site_Right_1.f k x).isSome) = true
 case neg => rw [if_neg hok] at h; cases h
 rw [if_pos hok] at h
 obtain rfl := Option.some.inj h
 have eg : ∀ args w, (callFunc 53 args).run Tryz.prog w = .ok (.enter 53 args) w := enters_of Tryz.func53 (by kernel_rfl) rfl
 have hok1 := hok.1
 exact ContainsFunc_string (fun x => (conf_Site_Right_1.f k x).getD false) 53 #[] eg A c l w (fun W x hx _ => by
  obtain ⟨y, hy⟩ := Option.isSome_iff_exists.1 (List.all_eq_true.1 hok.2 x hx)
  rw [hy]
  exact conf_Site_Right_1.calls k x y W hy) hr hc (by omega)
/-! ### conf_Site_Right: function 38 -/
def conf_Site_Right.f (k : Nat) (a0_0 : ByteArray) (a0_1 : Int) (a0_2 : Int) (a0_3 : Int) (a0_4 : Bool) (a0_5 : Bool) (l0_6 : List ByteArray) : Option (Bool) := (place_Host.f k a0_0).bind fun bt122 => (if bt122.2 = 0 then (if bt122.1.toList = a0_0.toList then (if a0_1 ≥ 1 then (if a0_1 ≤ 9 then (if a0_2 ≥ 0 then (if a0_2 ≤ a0_3 then (if a0_3 ≤ 2147483648 then (if (l0_6.length : Int) ≤ 4 then ((conf_rising.f k l0_6).bind fun t124 => (if t124 = true then ((badHeads.f k l0_6).bind fun t125 => (some (!t125))) else (some false))) else (some false)) else (some false)) else (some false)) else (some false)) else (some false)) else (some false)) else (some false)) else (some false))
theorem conf_Site_Right.mono : ∀ a0 a1 a2 a3 a4 a5 a6 k, LeO (conf_Site_Right.f k a0 a1 a2 a3 a4 a5 a6) (conf_Site_Right.f (k + 1) a0 a1 a2 a3 a4 a5 a6) := by
 intro a0 a1 a2 a3 a4 a5 a6 k
 unfold conf_Site_Right.f
 repeat' (with_reducible first | exact conf_rising.mono _ _ | exact badHeads.mono _ _ | exact place_Host.mono _ _ | exact lR_ | refine LeO.ite ?_ ?_ | refine LeO.bind ?_ (fun _ => ?_))
set_option maxHeartbeats 8000000 in
set_option maxRecDepth 100000 in
theorem conf_Site_Right.calls (k : Nat) (a0_0 : ByteArray) (a0_1 : Int) (a0_2 : Int) (a0_3 : Int) (a0_4 : Bool) (a0_5 : Bool) (A0_6 : Option Addr) (c0_6 : Nat) (l0_6 : List ByteArray) (r : Bool) (w : World) (hr0_6 : Kd.C Kd.string w A0_6 l0_6.length l0_6) (hc0_6 : l0_6.length ≤ c0_6) (h : conf_Site_Right.f k a0_0 a0_1 a0_2 a0_3 a0_4 a0_5 l0_6 = some r) :
  Calls Tryz.prog 38 #[.agg #[.string a0_0, .int .i64 a0_1, .int .i64 a0_2, .int .i64 a0_3, .bool a0_4, .bool a0_5, .slice A0_6 l0_6.length c0_6]] w fun e w' => e = .returned (.bool r) ∧ Below w.heap.size w w' := by
 have hu57 := Tryz.underlying57
 have HR0_6 := Aside0.mk hr0_6
 have HC0_6 := Aside0.mk hc0_6
 clear hr0_6 hc0_6
 have HB := Aside0.mk (Below.refl w.heap.size w)
 have H : ((place_Host.f k a0_0).bind fun bt122 => (if bt122.2 = 0 then (if bt122.1.toList = a0_0.toList then (if a0_1 ≥ 1 then (if a0_1 ≤ 9 then (if a0_2 ≥ 0 then (if a0_2 ≤ a0_3 then (if a0_3 ≤ 2147483648 then (if (l0_6.length : Int) ≤ 4 then ((conf_rising.f k l0_6).bind fun t124 => (if t124 = true then ((badHeads.f k l0_6).bind fun t125 => (some (!t125))) else (some false))) else (some false)) else (some false)) else (some false)) else (some false)) else (some false)) else (some false)) else (some false)) else (some false))) = some r := h
 clear h
 obtain ⟨⟨t122, t123⟩, A2, H⟩ := bS_ H
 try dsimp only at H
 by_cases c3 : t123 = 0
 ·
  rw [if_pos c3] at H
  have c3b0 : (t123 == 0) = true := beq_iff_eq.mpr c3
  have c3b1 : (t123 != 0) = false := bne_eq_false_iff_eq.mpr c3
  clear c3
  by_cases c4 : t122.toList = a0_0.toList
  ·
   rw [if_pos c4] at H
   have c4b0 : (t122.toList == a0_0.toList) = true := beq_iff_eq.mpr c4
   have c4b1 : (t122.toList != a0_0.toList) = false := bne_eq_false_iff_eq.mpr c4
   clear c4
   by_cases c5 : a0_1 ≥ 1
   ·
    rw [if_pos c5] at H
    have c5b0 : decide (1 ≤ a0_1) = true := decide_eq_true c5
    clear c5
    by_cases c6 : a0_1 ≤ 9
    ·
     rw [if_pos c6] at H
     have c6b0 : decide (a0_1 ≤ 9) = true := decide_eq_true c6
     clear c6
     by_cases c7 : a0_2 ≥ 0
     ·
      rw [if_pos c7] at H
      have c7b0 : decide (0 ≤ a0_2) = true := decide_eq_true c7
      clear c7
      by_cases c8 : a0_2 ≤ a0_3
      ·
       rw [if_pos c8] at H
       have c8b0 : decide (a0_2 ≤ a0_3) = true := decide_eq_true c8
       clear c8
       by_cases c9 : a0_3 ≤ 2147483648
       ·
        rw [if_pos c9] at H
        have c9b0 : decide (a0_3 ≤ 2147483648) = true := decide_eq_true c9
        clear c9
        by_cases c10 : (l0_6.length : Int) ≤ 4
        ·
         rw [if_pos c10] at H
         have c10b0 : decide ((l0_6.length : Int) ≤ 4) = true := decide_eq_true c10
         have c10b1 : decide (l0_6.length ≤ 4) = true := decide_eq_true (by omega)
         clear c10
         obtain ⟨t124, A11, H⟩ := bS_ H
         try dsimp only at H
         by_cases c12 : t124 = true
         ·
          subst c12
          rw [if_pos rfl] at H
          obtain ⟨t125, A13, H⟩ := bS_ H
          try dsimp only at H
          obtain rfl := Option.some.inj H
          go_enter Tryz.func38, Tryz.ntmps38
          go_wp2_with (first | ((with_reducible refine gate_dst (N := 1) rfl ?_); (try (refine gate_guard (by rfl) ?_; dsimp only)); refine box_event ?hg (N := 1) ?hd (cs := #[.string a0_0, .int .i64 a0_1, .int .i64 a0_2, .int .i64 a0_3, .bool a0_4, .bool a0_5, .slice A0_6 l0_6.length c0_6]) (t := 57) ?hr ?_; (case hd | hg => rfl); (case hr => exact S1_); intro gb121 hg w14 hbox hb; have BK121 := Aside0.mk (hbox); have GW121 := Aside0.mk ((Z1_ : w.heap.size ≤ gb121)); have GE121 := Aside0.mk ((Z1_ : w.heap.size ≤ gb121)); replace HB := y1_ hb; clear hb hbox hg; obtain ⟨z15_0, z15_1, z15_2, z15_3, z15_4, z15_5, z15_6, y15_0, y15_1, y15_2, y15_3, y15_4, y15_5, y15_6⟩ := cz7_ BK121.out) | ((with_reducible refine gate_callee (f := 50) rfl ?_); refine goesL_ (some 8) rfl rfl Tryz.func50 (by kernel_rfl) rfl #[.string a0_0] rfl T1_ ?_; (with_reducible refine (place_Host.calls k a0_0 t122 t123 _ A2.out).mono ?_); rintro e w16 ⟨rfl, hb⟩; refine ⟨_, rfl, ?_⟩; replace BK121 := yB_ BK121 hb; replace HB := y2_ hb; (try clear hb); obtain ⟨z17_0, z17_1, z17_2, z17_3, z17_4, z17_5, z17_6, y17_0, y17_1, y17_2, y17_3, y17_4, y17_5, y17_6⟩ := cz7_ BK121.out) | (go_at_call 51; (with_reducible refine (conf_rising.calls k _ _ l0_6 true _ ?side1 ?side2 A11.out).mono ?_); (case side1 => exact C1_ ((Kd.C_below HR0_6.out HB.out))); (case side2 => exact HC0_6.out); rintro e w' ⟨rfl, ⟨nd, rfl⟩⟩) | (go_at_call 52; (with_reducible refine (badHeads.calls k _ _ l0_6 t125 _ ?side1 ?side2 A13.out).mono ?_); (case side1 => exact C1_ ((Kd.C_below HR0_6.out W2_))); (case side2 => exact HC0_6.out); rintro e w91 ⟨rfl, hb⟩; have n1_ := Aside0.mk (below_step W2_ hb); clear HB; have HB := n1_; clear n1_; clear hb))
          go_ret
          exact ⟨E1_, W2_⟩
         ·
          replace c12 := Bool.eq_false_iff.mpr c12
          subst c12
          rw [if_neg (show ¬ (false = true) by decide)] at H
          obtain rfl := Option.some.inj H
          go_enter Tryz.func38, Tryz.ntmps38
          go_wp2_with (first | ((with_reducible refine gate_dst (N := 1) rfl ?_); (try (refine gate_guard (by rfl) ?_; dsimp only)); refine box_event ?hg (N := 1) ?hd (cs := #[.string a0_0, .int .i64 a0_1, .int .i64 a0_2, .int .i64 a0_3, .bool a0_4, .bool a0_5, .slice A0_6 l0_6.length c0_6]) (t := 57) ?hr ?_; (case hd | hg => rfl); (case hr => exact S1_); intro gb121 hg w18 hbox hb; have BK121 := Aside0.mk (hbox); have GW121 := Aside0.mk ((Z1_ : w.heap.size ≤ gb121)); have GE121 := Aside0.mk ((Z1_ : w.heap.size ≤ gb121)); replace HB := y1_ hb; clear hb hbox hg; obtain ⟨z19_0, z19_1, z19_2, z19_3, z19_4, z19_5, z19_6, y19_0, y19_1, y19_2, y19_3, y19_4, y19_5, y19_6⟩ := cz7_ BK121.out) | ((with_reducible refine gate_callee (f := 50) rfl ?_); refine goesL_ (some 8) rfl rfl Tryz.func50 (by kernel_rfl) rfl #[.string a0_0] rfl T1_ ?_; (with_reducible refine (place_Host.calls k a0_0 t122 t123 _ A2.out).mono ?_); rintro e w20 ⟨rfl, hb⟩; refine ⟨_, rfl, ?_⟩; replace BK121 := yB_ BK121 hb; replace HB := y2_ hb; (try clear hb); obtain ⟨z21_0, z21_1, z21_2, z21_3, z21_4, z21_5, z21_6, y21_0, y21_1, y21_2, y21_3, y21_4, y21_5, y21_6⟩ := cz7_ BK121.out) | (go_at_call 51; (with_reducible refine (conf_rising.calls k _ _ l0_6 false _ ?side1 ?side2 A11.out).mono ?_); (case side1 => exact C1_ ((Kd.C_below HR0_6.out HB.out))); (case side2 => exact HC0_6.out); rintro e w' ⟨rfl, ⟨nd, rfl⟩⟩))
          go_ret
          exact ⟨E1_, W2_⟩
        ·
         rw [if_neg c10] at H
         have c10b0 : decide ((l0_6.length : Int) ≤ 4) = false := decide_eq_false c10
         have c10b1 : decide (l0_6.length ≤ 4) = false := decide_eq_false (by omega)
         clear c10
         obtain rfl := Option.some.inj H
         go_enter Tryz.func38, Tryz.ntmps38
         go_wp2_with (first | ((with_reducible refine gate_dst (N := 1) rfl ?_); (try (refine gate_guard (by rfl) ?_; dsimp only)); refine box_event ?hg (N := 1) ?hd (cs := #[.string a0_0, .int .i64 a0_1, .int .i64 a0_2, .int .i64 a0_3, .bool a0_4, .bool a0_5, .slice A0_6 l0_6.length c0_6]) (t := 57) ?hr ?_; (case hd | hg => rfl); (case hr => exact S1_); intro gb121 hg w22 hbox hb; have BK121 := Aside0.mk (hbox); have GW121 := Aside0.mk ((Z1_ : w.heap.size ≤ gb121)); have GE121 := Aside0.mk ((Z1_ : w.heap.size ≤ gb121)); replace HB := y1_ hb; clear hb hbox hg; obtain ⟨z23_0, z23_1, z23_2, z23_3, z23_4, z23_5, z23_6, y23_0, y23_1, y23_2, y23_3, y23_4, y23_5, y23_6⟩ := cz7_ BK121.out) | ((with_reducible refine gate_callee (f := 50) rfl ?_); refine goesL_ (some 8) rfl rfl Tryz.func50 (by kernel_rfl) rfl #[.string a0_0] rfl T1_ ?_; (with_reducible refine (place_Host.calls k a0_0 t122 t123 _ A2.out).mono ?_); rintro e w24 ⟨rfl, hb⟩; refine ⟨_, rfl, ?_⟩; replace BK121 := yB_ BK121 hb; replace HB := y2_ hb; (try clear hb); obtain ⟨z25_0, z25_1, z25_2, z25_3, z25_4, z25_5, z25_6, y25_0, y25_1, y25_2, y25_3, y25_4, y25_5, y25_6⟩ := cz7_ BK121.out))
         go_ret
         exact ⟨E1_, W2_⟩
       ·
        rw [if_neg c9] at H
        have c9b0 : decide (a0_3 ≤ 2147483648) = false := decide_eq_false c9
        clear c9
        obtain rfl := Option.some.inj H
        go_enter Tryz.func38, Tryz.ntmps38
        go_wp2_with (first | ((with_reducible refine gate_dst (N := 1) rfl ?_); (try (refine gate_guard (by rfl) ?_; dsimp only)); refine box_event ?hg (N := 1) ?hd (cs := #[.string a0_0, .int .i64 a0_1, .int .i64 a0_2, .int .i64 a0_3, .bool a0_4, .bool a0_5, .slice A0_6 l0_6.length c0_6]) (t := 57) ?hr ?_; (case hd | hg => rfl); (case hr => exact S1_); intro gb121 hg w26 hbox hb; have BK121 := Aside0.mk (hbox); have GW121 := Aside0.mk ((Z1_ : w.heap.size ≤ gb121)); have GE121 := Aside0.mk ((Z1_ : w.heap.size ≤ gb121)); replace HB := y1_ hb; clear hb hbox hg; obtain ⟨z27_0, z27_1, z27_2, z27_3, z27_4, z27_5, z27_6, y27_0, y27_1, y27_2, y27_3, y27_4, y27_5, y27_6⟩ := cz7_ BK121.out) | ((with_reducible refine gate_callee (f := 50) rfl ?_); refine goesL_ (some 8) rfl rfl Tryz.func50 (by kernel_rfl) rfl #[.string a0_0] rfl T1_ ?_; (with_reducible refine (place_Host.calls k a0_0 t122 t123 _ A2.out).mono ?_); rintro e w28 ⟨rfl, hb⟩; refine ⟨_, rfl, ?_⟩; replace BK121 := yB_ BK121 hb; replace HB := y2_ hb; (try clear hb); obtain ⟨z29_0, z29_1, z29_2, z29_3, z29_4, z29_5, z29_6, y29_0, y29_1, y29_2, y29_3, y29_4, y29_5, y29_6⟩ := cz7_ BK121.out))
        go_ret
        exact ⟨E1_, W2_⟩
      ·
       rw [if_neg c8] at H
       have c8b0 : decide (a0_2 ≤ a0_3) = false := decide_eq_false c8
       clear c8
       obtain rfl := Option.some.inj H
       go_enter Tryz.func38, Tryz.ntmps38
       go_wp2_with (first | ((with_reducible refine gate_dst (N := 1) rfl ?_); (try (refine gate_guard (by rfl) ?_; dsimp only)); refine box_event ?hg (N := 1) ?hd (cs := #[.string a0_0, .int .i64 a0_1, .int .i64 a0_2, .int .i64 a0_3, .bool a0_4, .bool a0_5, .slice A0_6 l0_6.length c0_6]) (t := 57) ?hr ?_; (case hd | hg => rfl); (case hr => exact S1_); intro gb121 hg w30 hbox hb; have BK121 := Aside0.mk (hbox); have GW121 := Aside0.mk ((Z1_ : w.heap.size ≤ gb121)); have GE121 := Aside0.mk ((Z1_ : w.heap.size ≤ gb121)); replace HB := y1_ hb; clear hb hbox hg; obtain ⟨z31_0, z31_1, z31_2, z31_3, z31_4, z31_5, z31_6, y31_0, y31_1, y31_2, y31_3, y31_4, y31_5, y31_6⟩ := cz7_ BK121.out) | ((with_reducible refine gate_callee (f := 50) rfl ?_); refine goesL_ (some 8) rfl rfl Tryz.func50 (by kernel_rfl) rfl #[.string a0_0] rfl T1_ ?_; (with_reducible refine (place_Host.calls k a0_0 t122 t123 _ A2.out).mono ?_); rintro e w32 ⟨rfl, hb⟩; refine ⟨_, rfl, ?_⟩; replace BK121 := yB_ BK121 hb; replace HB := y2_ hb; (try clear hb); obtain ⟨z33_0, z33_1, z33_2, z33_3, z33_4, z33_5, z33_6, y33_0, y33_1, y33_2, y33_3, y33_4, y33_5, y33_6⟩ := cz7_ BK121.out))
       go_ret
       exact ⟨E1_, W2_⟩
     ·
      rw [if_neg c7] at H
      have c7b0 : decide (0 ≤ a0_2) = false := decide_eq_false c7
      clear c7
      obtain rfl := Option.some.inj H
      go_enter Tryz.func38, Tryz.ntmps38
      go_wp2_with (first | ((with_reducible refine gate_dst (N := 1) rfl ?_); (try (refine gate_guard (by rfl) ?_; dsimp only)); refine box_event ?hg (N := 1) ?hd (cs := #[.string a0_0, .int .i64 a0_1, .int .i64 a0_2, .int .i64 a0_3, .bool a0_4, .bool a0_5, .slice A0_6 l0_6.length c0_6]) (t := 57) ?hr ?_; (case hd | hg => rfl); (case hr => exact S1_); intro gb121 hg w34 hbox hb; have BK121 := Aside0.mk (hbox); have GW121 := Aside0.mk ((Z1_ : w.heap.size ≤ gb121)); have GE121 := Aside0.mk ((Z1_ : w.heap.size ≤ gb121)); replace HB := y1_ hb; clear hb hbox hg; obtain ⟨z35_0, z35_1, z35_2, z35_3, z35_4, z35_5, z35_6, y35_0, y35_1, y35_2, y35_3, y35_4, y35_5, y35_6⟩ := cz7_ BK121.out) | ((with_reducible refine gate_callee (f := 50) rfl ?_); refine goesL_ (some 8) rfl rfl Tryz.func50 (by kernel_rfl) rfl #[.string a0_0] rfl T1_ ?_; (with_reducible refine (place_Host.calls k a0_0 t122 t123 _ A2.out).mono ?_); rintro e w36 ⟨rfl, hb⟩; refine ⟨_, rfl, ?_⟩; replace BK121 := yB_ BK121 hb; replace HB := y2_ hb; (try clear hb); obtain ⟨z37_0, z37_1, z37_2, z37_3, z37_4, z37_5, z37_6, y37_0, y37_1, y37_2, y37_3, y37_4, y37_5, y37_6⟩ := cz7_ BK121.out))
      go_ret
      exact ⟨E1_, W2_⟩
    ·
     rw [if_neg c6] at H
     have c6b0 : decide (a0_1 ≤ 9) = false := decide_eq_false c6
     clear c6
     obtain rfl := Option.some.inj H
     go_enter Tryz.func38, Tryz.ntmps38
     go_wp2_with (first | ((with_reducible refine gate_dst (N := 1) rfl ?_); (try (refine gate_guard (by rfl) ?_; dsimp only)); refine box_event ?hg (N := 1) ?hd (cs := #[.string a0_0, .int .i64 a0_1, .int .i64 a0_2, .int .i64 a0_3, .bool a0_4, .bool a0_5, .slice A0_6 l0_6.length c0_6]) (t := 57) ?hr ?_; (case hd | hg => rfl); (case hr => exact S1_); intro gb121 hg w38 hbox hb; have BK121 := Aside0.mk (hbox); have GW121 := Aside0.mk ((Z1_ : w.heap.size ≤ gb121)); have GE121 := Aside0.mk ((Z1_ : w.heap.size ≤ gb121)); replace HB := y1_ hb; clear hb hbox hg; obtain ⟨z39_0, z39_1, z39_2, z39_3, z39_4, z39_5, z39_6, y39_0, y39_1, y39_2, y39_3, y39_4, y39_5, y39_6⟩ := cz7_ BK121.out) | ((with_reducible refine gate_callee (f := 50) rfl ?_); refine goesL_ (some 8) rfl rfl Tryz.func50 (by kernel_rfl) rfl #[.string a0_0] rfl T1_ ?_; (with_reducible refine (place_Host.calls k a0_0 t122 t123 _ A2.out).mono ?_); rintro e w40 ⟨rfl, hb⟩; refine ⟨_, rfl, ?_⟩; replace BK121 := yB_ BK121 hb; replace HB := y2_ hb; (try clear hb); obtain ⟨z41_0, z41_1, z41_2, z41_3, z41_4, z41_5, z41_6, y41_0, y41_1, y41_2, y41_3, y41_4, y41_5, y41_6⟩ := cz7_ BK121.out))
     go_ret
     exact ⟨E1_, W2_⟩
   ·
    rw [if_neg c5] at H
    have c5b0 : decide (1 ≤ a0_1) = false := decide_eq_false c5
    clear c5
    obtain rfl := Option.some.inj H
    go_enter Tryz.func38, Tryz.ntmps38
    go_wp2_with (first | ((with_reducible refine gate_dst (N := 1) rfl ?_); (try (refine gate_guard (by rfl) ?_; dsimp only)); refine box_event ?hg (N := 1) ?hd (cs := #[.string a0_0, .int .i64 a0_1, .int .i64 a0_2, .int .i64 a0_3, .bool a0_4, .bool a0_5, .slice A0_6 l0_6.length c0_6]) (t := 57) ?hr ?_; (case hd | hg => rfl); (case hr => exact S1_); intro gb121 hg w42 hbox hb; have BK121 := Aside0.mk (hbox); have GW121 := Aside0.mk ((Z1_ : w.heap.size ≤ gb121)); have GE121 := Aside0.mk ((Z1_ : w.heap.size ≤ gb121)); replace HB := y1_ hb; clear hb hbox hg; obtain ⟨z43_0, z43_1, z43_2, z43_3, z43_4, z43_5, z43_6, y43_0, y43_1, y43_2, y43_3, y43_4, y43_5, y43_6⟩ := cz7_ BK121.out) | ((with_reducible refine gate_callee (f := 50) rfl ?_); refine goesL_ (some 8) rfl rfl Tryz.func50 (by kernel_rfl) rfl #[.string a0_0] rfl T1_ ?_; (with_reducible refine (place_Host.calls k a0_0 t122 t123 _ A2.out).mono ?_); rintro e w44 ⟨rfl, hb⟩; refine ⟨_, rfl, ?_⟩; replace BK121 := yB_ BK121 hb; replace HB := y2_ hb; (try clear hb); obtain ⟨z45_0, z45_1, z45_2, z45_3, z45_4, z45_5, z45_6, y45_0, y45_1, y45_2, y45_3, y45_4, y45_5, y45_6⟩ := cz7_ BK121.out))
    go_ret
    exact ⟨E1_, W2_⟩
  ·
   rw [if_neg c4] at H
   have c4b0 : (t122.toList == a0_0.toList) = false := beq_eq_false_iff_ne.mpr c4
   have c4b1 : (t122.toList != a0_0.toList) = true := bne_iff_ne.mpr c4
   obtain rfl := Option.some.inj H
   go_enter Tryz.func38, Tryz.ntmps38
   go_wp2_with (first | ((with_reducible refine gate_dst (N := 1) rfl ?_); (try (refine gate_guard (by rfl) ?_; dsimp only)); refine box_event ?hg (N := 1) ?hd (cs := #[.string a0_0, .int .i64 a0_1, .int .i64 a0_2, .int .i64 a0_3, .bool a0_4, .bool a0_5, .slice A0_6 l0_6.length c0_6]) (t := 57) ?hr ?_; (case hd | hg => rfl); (case hr => exact S1_); intro gb121 hg w46 hbox hb; have BK121 := Aside0.mk (hbox); have GW121 := Aside0.mk ((Z1_ : w.heap.size ≤ gb121)); have GE121 := Aside0.mk ((Z1_ : w.heap.size ≤ gb121)); replace HB := y1_ hb; clear hb hbox hg; obtain ⟨z47_0, z47_1, z47_2, z47_3, z47_4, z47_5, z47_6, y47_0, y47_1, y47_2, y47_3, y47_4, y47_5, y47_6⟩ := cz7_ BK121.out) | ((with_reducible refine gate_callee (f := 50) rfl ?_); refine goesL_ (some 8) rfl rfl Tryz.func50 (by kernel_rfl) rfl #[.string a0_0] rfl T1_ ?_; (with_reducible refine (place_Host.calls k a0_0 t122 t123 _ A2.out).mono ?_); rintro e w48 ⟨rfl, hb⟩; refine ⟨_, rfl, ?_⟩; replace BK121 := yB_ BK121 hb; replace HB := y2_ hb; (try clear hb); obtain ⟨z49_0, z49_1, z49_2, z49_3, z49_4, z49_5, z49_6, y49_0, y49_1, y49_2, y49_3, y49_4, y49_5, y49_6⟩ := cz7_ BK121.out))
   go_ret
   exact ⟨E1_, W2_⟩
 ·
  rw [if_neg c3] at H
  have c3b0 : (t123 == 0) = false := beq_eq_false_iff_ne.mpr c3
  have c3b1 : (t123 != 0) = true := bne_iff_ne.mpr c3
  obtain rfl := Option.some.inj H
  go_enter Tryz.func38, Tryz.ntmps38
  go_wp2_with (first | ((with_reducible refine gate_dst (N := 1) rfl ?_); (try (refine gate_guard (by rfl) ?_; dsimp only)); refine box_event ?hg (N := 1) ?hd (cs := #[.string a0_0, .int .i64 a0_1, .int .i64 a0_2, .int .i64 a0_3, .bool a0_4, .bool a0_5, .slice A0_6 l0_6.length c0_6]) (t := 57) ?hr ?_; (case hd | hg => rfl); (case hr => exact S1_); intro gb121 hg w50 hbox hb; have BK121 := Aside0.mk (hbox); have GW121 := Aside0.mk ((Z1_ : w.heap.size ≤ gb121)); have GE121 := Aside0.mk ((Z1_ : w.heap.size ≤ gb121)); replace HB := y1_ hb; clear hb hbox hg; obtain ⟨z51_0, z51_1, z51_2, z51_3, z51_4, z51_5, z51_6, y51_0, y51_1, y51_2, y51_3, y51_4, y51_5, y51_6⟩ := cz7_ BK121.out) | ((with_reducible refine gate_callee (f := 50) rfl ?_); refine goesL_ (some 8) rfl rfl Tryz.func50 (by kernel_rfl) rfl #[.string a0_0] rfl T1_ ?_; (with_reducible refine (place_Host.calls k a0_0 t122 t123 _ A2.out).mono ?_); rintro e w52 ⟨rfl, hb⟩; refine ⟨_, rfl, ?_⟩; replace BK121 := yB_ BK121 hb; replace HB := y2_ hb; (try clear hb)))
  go_ret
  exact ⟨E1_, W2_⟩

/-! the map of the hosts that were seen -/
def seenAt.f (l : List (S57)) (i : Int) : Option Bool := if (rd_T57 l i).f0.size ≤ 1000000 then some (inB (rd_T57 l i).f0 ((l.take i.toNat).map (·.f0))) else none
theorem obj_far {w : World} {g : Nat} {o : Obj} (h : w.heap[g]? = some o) {p : Addr} (hp : g ≠ p.block) (u : Value) : (w.setCell p u).heap[g]? = some o := (Below.heap_setCell w p u g hp).trans h
theorem seen_obj {w : World} {b n : Nat} {seen : List ByteArray} (h : SeenIs w b n seen) : ∃ o, w.heap[b]? = some o ∧ ∀ W : World, W.heap[b]? = some o → SeenIs W b n seen := by
 obtain ⟨D, ⟨es, clock, hb, F, hs, hD⟩, hm, hr⟩ := h
 exact ⟨_, hb, fun W hW => ⟨D, ⟨es, clock, hW, F, hs, hD⟩, hm, hr⟩⟩
theorem seen_look {w : World} {b n : Nat} {seen : List ByteArray} (h : SeenIs w b n seen) (s : ByteArray) (hs : s.size ≤ 1000000) : (Instr.lookup 86 (.map (some b)) (.string s) false).run Tryz.prog w = .ok (.bool (inB s seen)) w := by
 obtain ⟨D, ho, _, hr⟩ := h
 obtain ⟨v, ps, hrun, hv⟩ := ho.lookup keyed_str Tryz.underlying86 (zero_bool_ w) (plainElem_bool Tryz.underlying4 false) (WideMaps.keyOf_string_mk Tryz.underlying9 (Nat.le_trans hs (by decide)))
 obtain ⟨c, rfl, hc⟩ := plainElem_bool_inv Tryz.underlying4 hv
 have h1 := (Prod.mk.inj hc).1
 have h2 := (hr s).symm.trans h1
 have hc' : c = inB s seen := by simpa using h2.symm
 rw [hrun, hc']
theorem seen_put {w : World} {b n : Nat} {seen : List ByteArray} (h : SeenIs w b n seen) (hn : n ≤ 1000000) (s : ByteArray) (hs : s.size ≤ 1000000) : ∃ w', (Instr.mapUpdate 86 (.map (some b)) (.string s) (.bool true)).run Tryz.prog w = .ok () w' ∧ SeenIs w' b (n + 1) (s :: seen) ∧ w.grownBy w' (some b) := by
 obtain ⟨D, ho, hD, hr⟩ := h
 obtain ⟨w', hrun, h1, hgr⟩ := ho.update keyed_str Tryz.underlying86 (Nat.lt_of_le_of_lt hn (by decide)) (WideMaps.keyOf_string_mk Tryz.underlying9 (Nat.le_trans hs (by decide))) (plainElem_bool Tryz.underlying4 true)
 refine ⟨w', hrun, ⟨_, h1, hD.put _ _, fun q => ?_⟩, hgr⟩
 by_cases hq : q = s
 ·
  subst hq
  refine (Maps.atKey_put_same hD (by trivial) _ _).trans ?_
  simp [inB]
 ·
  refine (Maps.atKey_put_other (fun e => hq (KL_inj e)) _ _).trans ((hr q).trans ?_)
  have h1 : (s.data.toList == q.data.toList) = false := beq_eq_false_iff_ne.2 (fun e => hq (ByteArray.ext (Array.toList_inj.1 e)).symm)
  show DataW.lit (Lit.bool (inB q seen)) = DataW.lit (Lit.bool ((s.data.toList == q.data.toList) || inB q seen))
  rw [h1, Bool.false_or]
theorem seen_same {w : World} {b n : Nat} {seen seen' : List ByteArray} (h : SeenIs w b n seen) (he : ∀ q, inB q seen = inB q seen') : SeenIs w b n seen' := by
 obtain ⟨D, ho, hD, hr⟩ := h
 exact ⟨D, ho, hD, fun q => (hr q).trans (by rw [he q])⟩
theorem seen_step (l : List (S57)) (n : Nat) (h : n < l.length) (q : ByteArray) : inB q ((rd_T57 l (n : Int)).f0 :: (l.take n).map (·.f0)) = inB q ((l.take (n + 1)).map (·.f0)) := by
 have e : rd_T57 l (n : Int) = l[n] := by simp [rd_T57, h]
 rw [e, List.take_succ_eq_append_getElem h, List.map_append]
 unfold inB
 rw [List.any_append, List.any_cons, Bool.or_comm]
 simp
/-! ### conf_Config_Right: function 15 -/
def conf_Config_Right.l0 : Nat → List (S57) → Int → Int → List (S57) → Option (Bool)
 | 0, _, _, _, _ => none
 | k + 1, x8, x9, x10, x127000 => if x10 < x9 then (if 0 ≤ x10 then (if x10 < (x8.length : Int) then ((conf_Site_Right.f k ((rd_T57 x8 x10).f0) ((rd_T57 x8 x10).f1) ((rd_T57 x8 x10).f2) ((rd_T57 x8 x10).f3) ((rd_T57 x8 x10).f4) ((rd_T57 x8 x10).f5) ((rd_T57 x8 x10).f6)).bind fun t129 => (if t129 = true then ((seenAt.f x8 x10).bind fun t130 => (if t130 = true then (some false) else (conf_Config_Right.l0 k x8 x9 (wrap64 (x10 + 1)) x127000))) else (some false))) else (none)) else (none)) else (some (decide ((x127000.length : Int) ≤ 8)))
def conf_Config_Right.f (k : Nat) (l0_0 : List (S57)) : Option (Bool) := if l0_0.length ≤ 1000000 then (conf_Config_Right.l0 k l0_0 (l0_0.length : Int) 0 l0_0) else none
theorem conf_Config_Right.mono_l : ∀ k, (∀ y0 y1 y2 y3, LeO (conf_Config_Right.l0 k y0 y1 y2 y3) (conf_Config_Right.l0 (k + 1) y0 y1 y2 y3))
 | 0 => fun _ _ _ _ r h => by simp [conf_Config_Right.l0] at h
 | k + 1 => by
  have ih0 := conf_Config_Right.mono_l k
  ·
   intro y0 y1 y2 y3
   unfold conf_Config_Right.l0
   repeat' (with_reducible first | exact ih0 _ _ _ _ | exact conf_Site_Right.mono _ _ _ _ _ _ _ _ | exact sign_Token.mono _ _ | exact lR_ | refine LeO.ite ?_ ?_ | refine LeO.bind ?_ (fun _ => ?_))
theorem conf_Config_Right.mono : ∀ a0 k, LeO (conf_Config_Right.f k a0) (conf_Config_Right.f (k + 1) a0) := by
 intro a0 k
 have ih0 := conf_Config_Right.mono_l k
 unfold conf_Config_Right.f
 repeat' (with_reducible first | exact ih0 _ _ _ _ | exact conf_Site_Right.mono _ _ _ _ _ _ _ _ | exact sign_Token.mono _ _ | exact lR_ | refine LeO.ite ?_ ?_ | refine LeO.bind ?_ (fun _ => ?_))
set_option maxHeartbeats 8000000 in
set_option maxRecDepth 100000 in
theorem conf_Config_Right.calls (k : Nat) (A0_0 : Option Addr) (c0_0 : Nat) (l0_0 : List (S57)) (r : Bool) (w : World) (hr0_0 : Kd.C k57 w A0_0 l0_0.length l0_0) (hc0_0 : l0_0.length ≤ c0_0) (h : conf_Config_Right.f k l0_0 = some r) :
  Calls Tryz.prog 15 #[.agg #[.slice A0_0 l0_0.length c0_0]] w fun e w' => e = .returned (.bool r) ∧ Below w.heap.size w w' := by
 have hu24 := Tryz.underlying24
 have hu57 := Tryz.underlying57
 have HR0_0 := Aside0.mk hr0_0
 have HC0_0 := Aside0.mk hc0_0
 clear hr0_0 hc0_0
 have HB := Aside0.mk (Below.refl w.heap.size w)
 unfold conf_Config_Right.f at h
 by_cases hlen : l0_0.length ≤ 1000000
 case neg => rw [if_neg hlen] at h; cases h
 rw [if_pos hlen] at h
 have HLEN := Aside0.mk hlen
 clear hlen
 have H : (conf_Config_Right.l0 k l0_0 (l0_0.length : Int) 0 l0_0) = some r := h
 clear h
 have H' := Aside0.mk H
 clear H
 go_enter Tryz.func15, Tryz.ntmps15
 have hmm_ := @run_makeMap Tryz.prog
 go_wp2_with (first | ((with_reducible refine gate_dst (N := 1) rfl ?_); refine box_event ?hg (N := 1) ?hd (cs := #[.slice A0_0 l0_0.length c0_0]) (t := 24) ?hr ?_; (case hd | hg => rfl); (case hr => exact S1_); intro gb126 hg w2 hbox hb; have BK126 := Aside0.mk (hbox); have GW126 := Aside0.mk ((Z1_ : w.heap.size ≤ gb126)); have GE126 := Aside0.mk ((Z1_ : w.heap.size ≤ gb126)); replace HB := y1_ hb; clear hb hbox hg; obtain ⟨z3_0, y3_0⟩ := cz1_ BK126.out; have hcm_ : (w2.alloc (.map #[] 0)).cell? ⟨gb126, 0, none⟩ = some (.slice A0_0 l0_0.length c0_0) := (blk_cell (bA_ BK126.out _) 0).trans rfl; have hfm_ := blk_frozen (bA_ BK126.out (.map #[] 0)) 0))
 clear hmm_ hcm_ hfm_
 have HGM := Aside0.mk HB.out.size
 have HGB := Aside0.mk (Nat.ne_of_lt (blk_lt BK126.out))
 go_loopg [10] k (fun kq v10 w' => ∃ (x10_1 : Int), v10 = .int .i64 x10_1 ∧ Aside0 (conf_Config_Right.l0 kq l0_0 (l0_0.length : Int) x10_1 l0_0 = some r) ∧ Aside0 (kq ≤ k) ∧ Aside0 (w'.heap[gb126]? = some (.cells #[(.slice A0_0 l0_0.length c0_0)] 24 (0, 0))) ∧ Aside0 (SeenIs w' w2.heap.size x10_1.toNat ((l0_0.take x10_1.toNat).map (·.f0))) ∧ Aside0 (Below w.heap.size w w'))
 case atStart => exact ⟨(0), E3_, H', ⟨Nat.le_refl _⟩, ⟨B1_ BK126.out⟩, ⟨seen_made w2⟩, ⟨W2_⟩⟩
 case round =>
  clear H'
  (try clear z3_0 y3_0)
  obtain ⟨x10_1, rfl, HA, HK1, BK126, HS, HB⟩ := hrel
  cases gk with
  | zero => exact absurd HA.out (by simp [conf_Config_Right.l0])
  | succ k1 =>
   have H := HA.out
   clear HA
   simp only [conf_Config_Right.l0] at H
   by_cases c4 : x10_1 < (l0_0.length : Int)
   ·
    rw [if_pos c4] at H
    have c4b0 : decide (x10_1 < (l0_0.length : Int)) = true := decide_eq_true c4
    clear c4
    by_cases c5 : 0 ≤ x10_1
    ·
     rw [if_pos c5] at H
     have c5b0 : decide (0 ≤ x10_1) = true := decide_eq_true c5
     clear c5
     by_cases c6 : x10_1 < (l0_0.length : Int)
     ·
      rw [if_pos c6] at H
      have c6b0 : decide (x10_1 < (l0_0.length : Int)) = true := decide_eq_true c6
      clear c6
      obtain ⟨t129, A7, H⟩ := bS_ H
      try dsimp only at H
      by_cases c8 : t129 = true
      ·
       subst c8
       rw [if_pos rfl] at H
       obtain ⟨t130, A9, H⟩ := bS_ H
       try dsimp only at H
       by_cases c10 : t130 = true
       ·
        subst c10
        rw [if_pos rfl] at H
        obtain rfl := Option.some.inj H
        have p127 : 0 ≤ (x10_1 : Int) := oA_
        have q127 : x10_1 < (l0_0.length : Int) := oA_
        obtain ⟨ad127, A127_6, c127_6, e127, hx127_0, hx127_1, hx127_2, hx127_3, hx127_4, hx127_5, hx127_6, hl127_6, hi127_6⟩ := at_T57 HR0_0.out x10_1 p127 q127
        cases e127
        replace hx127_0 := (HB.out.cell (World.block_lt_of_cell? w _ hx127_0)).trans hx127_0
        replace hx127_1 := (HB.out.cell (World.block_lt_of_cell? w _ hx127_1)).trans hx127_1
        replace hx127_2 := (HB.out.cell (World.block_lt_of_cell? w _ hx127_2)).trans hx127_2
        replace hx127_3 := (HB.out.cell (World.block_lt_of_cell? w _ hx127_3)).trans hx127_3
        replace hx127_4 := (HB.out.cell (World.block_lt_of_cell? w _ hx127_4)).trans hx127_4
        replace hx127_5 := (HB.out.cell (World.block_lt_of_cell? w _ hx127_5)).trans hx127_5
        replace hx127_6 := (HB.out.cell (World.block_lt_of_cell? w _ hx127_6)).trans hx127_6
        have HR127_6 := Aside0.mk hi127_6
        have HC127_6 := Aside0.mk hl127_6
        clear hi127_6 hl127_6
        replace p127 := eq_true p127
        replace q127 := eq_true q127
        obtain ⟨om, hm_, hall_⟩ := seen_obj HS.out
        have HM := Aside0.mk hm_
        have HALL := Aside0.mk hall_
        clear hm_ hall_ HS
        go_wp2_with (first | ((with_reducible refine gate_dst (N := 5) rfl ?_); refine box_event ?hg (N := 5) ?hd (cs := #[.string (⟨#[]⟩ : ByteArray), .int .i64 0, .int .i64 0, .int .i64 0, .bool false, .bool false, .slice none 0 0]) (t := 57) ?hr ?_; (case hd | hg => rfl); (case hr => exact S1_); intro gb128 hg w11 hbox hb; have n0_ := Aside0.mk (blk_below (B1_ BK126.out) hb); have nm_ := Aside0.mk (blk_below (B1_ HM.out) hb); have nz_ := Aside0.mk ((by rw [hg]; exact Nat.ne_of_lt (blk_lt (B1_ HM.out)) : w2.heap.size ≠ gb128)); clear HM; have HM := nm_; have HMZ := nz_; clear nm_ nz_; have n1_ := Aside0.mk (below_step W2_ hb); have n2_ := Aside0.mk (hbox); have n3_ := Aside0.mk ((Z2_ : w.heap.size ≤ gb128)); have n4_ := Aside0.mk ((Z2_ : w.heap.size ≤ gb128)); have n5_ := Aside0.mk ((by rw [hg]; exact Nat.ne_of_lt (blk_lt (B1_ BK126.out)) : gb126 ≠ gb128)); have n6_ := Aside0.mk ((by rw [hg]; exact Nat.ne_of_gt (blk_lt (B1_ BK126.out)) : gb128 ≠ gb126)); clear BK126; clear HB; have BK126 := n0_; have HB := n1_; have BK128 := n2_; have GW128 := n3_; have GE128 := n4_; have NB126_128 := n5_; have NB128_126 := n6_; clear n0_ n1_ n2_ n3_ n4_ n5_ n6_; clear hb hbox hg; have hnb12 := NB128_126.out; have hnc12 := NB126_128.out; obtain ⟨z13_0, z13_1, z13_2, z13_3, z13_4, z13_5, z13_6, y13_0, y13_1, y13_2, y13_3, y13_4, y13_5, y13_6⟩ := cz7_ BK128.out) | ((with_reducible refine gate_callee (f := 38) rfl ?_); refine goesL_ (some 15) rfl rfl Tryz.func38 (by kernel_rfl) rfl #[.agg #[.string ((rd_T57 l0_0 x10_1).f0), .int .i64 ((rd_T57 l0_0 x10_1).f1), .int .i64 ((rd_T57 l0_0 x10_1).f2), .int .i64 ((rd_T57 l0_0 x10_1).f3), .bool ((rd_T57 l0_0 x10_1).f4), .bool ((rd_T57 l0_0 x10_1).f5), .slice A127_6 ((rd_T57 l0_0 x10_1).f6).length c127_6]] rfl T1_ ?_; (with_reducible refine (conf_Site_Right.calls k1 ((rd_T57 l0_0 x10_1).f0) ((rd_T57 l0_0 x10_1).f1) ((rd_T57 l0_0 x10_1).f2) ((rd_T57 l0_0 x10_1).f3) ((rd_T57 l0_0 x10_1).f4) ((rd_T57 l0_0 x10_1).f5) _ _ ((rd_T57 l0_0 x10_1).f6) true _ ?side1 ?side2 A7.out).mono ?_); (case side1 => exact Kd.C_below HR127_6.out W2_); (case side2 => exact HC127_6.out); rintro e w14 ⟨rfl, hb⟩; refine ⟨_, rfl, ?_⟩; have n0_ := Aside0.mk (blk_below (g := gb126) (o := .cells #[.slice (some ad127) l0_0.length c0_0] 24 (0, 0)) (G1_ BK126.out) hb); have nm_ := Aside0.mk (blk_below (g := w2.heap.size) (o := om) (by refine B1_ ?_; refine obj_far ?_ HMZ.out _; refine B1_ ?_; refine obj_far ?_ HMZ.out _; refine B1_ ?_; refine obj_far ?_ HMZ.out _; refine B1_ ?_; refine obj_far ?_ HMZ.out _; refine B1_ ?_; refine obj_far ?_ HMZ.out _; refine B1_ ?_; refine obj_far ?_ HMZ.out _; refine B1_ ?_; refine obj_far ?_ HMZ.out _; refine B1_ ?_; exact HM.out) hb); clear HM; have HM := nm_; clear nm_; have n1_ := Aside0.mk (blk_below (g := gb128) (o := .cells #[.string ((rd_T57 l0_0 x10_1).f0), .int .i64 ((rd_T57 l0_0 x10_1).f1), .int .i64 ((rd_T57 l0_0 x10_1).f2), .int .i64 ((rd_T57 l0_0 x10_1).f3), .bool ((rd_T57 l0_0 x10_1).f4), .bool ((rd_T57 l0_0 x10_1).f5), .slice A127_6 ((rd_T57 l0_0 x10_1).f6).length c127_6] 57 (0, 0)) (G1_ BK128.out) hb); have n2_ := Aside0.mk (below_step W2_ hb); clear BK126; clear BK128; clear HB; have BK126 := n0_; have BK128 := n1_; have HB := n2_; clear n0_ n1_ n2_; (try clear hb); obtain ⟨z15_0, z15_1, z15_2, z15_3, z15_4, z15_5, z15_6, y15_0, y15_1, y15_2, y15_3, y15_4, y15_5, y15_6⟩ := cz7_ BK128.out; have HSR := Aside0.mk (HALL.out w14 HM.out); have hsa_ := A9.out; unfold seenAt.f at hsa_; have HSZ := Aside0.mk (show (rd_T57 l0_0 x10_1).f0.size ≤ 1000000 from by by_cases hc_ : (rd_T57 l0_0 x10_1).f0.size ≤ 1000000; exact hc_; rw [if_neg hc_] at hsa_; cases hsa_); rw [if_pos HSZ.out] at hsa_; have hlk_ := seen_look HSR.out _ HSZ.out; rw [Option.some.inj hsa_] at hlk_; clear hsa_))
        go_ret
        exact ⟨E1_, W2_⟩
       ·
        replace c10 := Bool.eq_false_iff.mpr c10
        subst c10
        rw [if_neg (show ¬ (false = true) by decide)] at H
        have H' := Aside0.mk H
        clear H
        have p127 : 0 ≤ (x10_1 : Int) := oA_
        have q127 : x10_1 < (l0_0.length : Int) := oA_
        obtain ⟨ad127, A127_6, c127_6, e127, hx127_0, hx127_1, hx127_2, hx127_3, hx127_4, hx127_5, hx127_6, hl127_6, hi127_6⟩ := at_T57 HR0_0.out x10_1 p127 q127
        cases e127
        replace hx127_0 := (HB.out.cell (World.block_lt_of_cell? w _ hx127_0)).trans hx127_0
        replace hx127_1 := (HB.out.cell (World.block_lt_of_cell? w _ hx127_1)).trans hx127_1
        replace hx127_2 := (HB.out.cell (World.block_lt_of_cell? w _ hx127_2)).trans hx127_2
        replace hx127_3 := (HB.out.cell (World.block_lt_of_cell? w _ hx127_3)).trans hx127_3
        replace hx127_4 := (HB.out.cell (World.block_lt_of_cell? w _ hx127_4)).trans hx127_4
        replace hx127_5 := (HB.out.cell (World.block_lt_of_cell? w _ hx127_5)).trans hx127_5
        replace hx127_6 := (HB.out.cell (World.block_lt_of_cell? w _ hx127_6)).trans hx127_6
        have HR127_6 := Aside0.mk hi127_6
        have HC127_6 := Aside0.mk hl127_6
        clear hi127_6 hl127_6
        replace p127 := eq_true p127
        replace q127 := eq_true q127
        obtain ⟨om, hm_, hall_⟩ := seen_obj HS.out
        have HM := Aside0.mk hm_
        have HALL := Aside0.mk hall_
        clear hm_ hall_ HS
        go_wp2_with (first | ((with_reducible refine gate_dst (N := 5) rfl ?_); refine box_event ?hg (N := 5) ?hd (cs := #[.string (⟨#[]⟩ : ByteArray), .int .i64 0, .int .i64 0, .int .i64 0, .bool false, .bool false, .slice none 0 0]) (t := 57) ?hr ?_; (case hd | hg => rfl); (case hr => exact S1_); intro gb128 hg w16 hbox hb; have n0_ := Aside0.mk (blk_below (B1_ BK126.out) hb); have nm_ := Aside0.mk (blk_below (B1_ HM.out) hb); have nz_ := Aside0.mk ((by rw [hg]; exact Nat.ne_of_lt (blk_lt (B1_ HM.out)) : w2.heap.size ≠ gb128)); clear HM; have HM := nm_; have HMZ := nz_; clear nm_ nz_; have n1_ := Aside0.mk (below_step W2_ hb); have n2_ := Aside0.mk (hbox); have n3_ := Aside0.mk ((Z2_ : w.heap.size ≤ gb128)); have n4_ := Aside0.mk ((Z2_ : w.heap.size ≤ gb128)); have n5_ := Aside0.mk ((by rw [hg]; exact Nat.ne_of_lt (blk_lt (B1_ BK126.out)) : gb126 ≠ gb128)); have n6_ := Aside0.mk ((by rw [hg]; exact Nat.ne_of_gt (blk_lt (B1_ BK126.out)) : gb128 ≠ gb126)); clear BK126; clear HB; have BK126 := n0_; have HB := n1_; have BK128 := n2_; have GW128 := n3_; have GE128 := n4_; have NB126_128 := n5_; have NB128_126 := n6_; clear n0_ n1_ n2_ n3_ n4_ n5_ n6_; clear hb hbox hg; have hnb17 := NB128_126.out; have hnc17 := NB126_128.out; obtain ⟨z18_0, z18_1, z18_2, z18_3, z18_4, z18_5, z18_6, y18_0, y18_1, y18_2, y18_3, y18_4, y18_5, y18_6⟩ := cz7_ BK128.out) | ((with_reducible refine gate_callee (f := 38) rfl ?_); refine goesL_ (some 15) rfl rfl Tryz.func38 (by kernel_rfl) rfl #[.agg #[.string ((rd_T57 l0_0 x10_1).f0), .int .i64 ((rd_T57 l0_0 x10_1).f1), .int .i64 ((rd_T57 l0_0 x10_1).f2), .int .i64 ((rd_T57 l0_0 x10_1).f3), .bool ((rd_T57 l0_0 x10_1).f4), .bool ((rd_T57 l0_0 x10_1).f5), .slice A127_6 ((rd_T57 l0_0 x10_1).f6).length c127_6]] rfl T1_ ?_; (with_reducible refine (conf_Site_Right.calls k1 ((rd_T57 l0_0 x10_1).f0) ((rd_T57 l0_0 x10_1).f1) ((rd_T57 l0_0 x10_1).f2) ((rd_T57 l0_0 x10_1).f3) ((rd_T57 l0_0 x10_1).f4) ((rd_T57 l0_0 x10_1).f5) _ _ ((rd_T57 l0_0 x10_1).f6) true _ ?side1 ?side2 A7.out).mono ?_); (case side1 => exact Kd.C_below HR127_6.out W2_); (case side2 => exact HC127_6.out); rintro e w19 ⟨rfl, hb⟩; refine ⟨_, rfl, ?_⟩; have n0_ := Aside0.mk (blk_below (g := gb126) (o := .cells #[.slice (some ad127) l0_0.length c0_0] 24 (0, 0)) (G1_ BK126.out) hb); have nm_ := Aside0.mk (blk_below (g := w2.heap.size) (o := om) (by refine B1_ ?_; refine obj_far ?_ HMZ.out _; refine B1_ ?_; refine obj_far ?_ HMZ.out _; refine B1_ ?_; refine obj_far ?_ HMZ.out _; refine B1_ ?_; refine obj_far ?_ HMZ.out _; refine B1_ ?_; refine obj_far ?_ HMZ.out _; refine B1_ ?_; refine obj_far ?_ HMZ.out _; refine B1_ ?_; refine obj_far ?_ HMZ.out _; refine B1_ ?_; exact HM.out) hb); clear HM; have HM := nm_; clear nm_; have n1_ := Aside0.mk (blk_below (g := gb128) (o := .cells #[.string ((rd_T57 l0_0 x10_1).f0), .int .i64 ((rd_T57 l0_0 x10_1).f1), .int .i64 ((rd_T57 l0_0 x10_1).f2), .int .i64 ((rd_T57 l0_0 x10_1).f3), .bool ((rd_T57 l0_0 x10_1).f4), .bool ((rd_T57 l0_0 x10_1).f5), .slice A127_6 ((rd_T57 l0_0 x10_1).f6).length c127_6] 57 (0, 0)) (G1_ BK128.out) hb); have n2_ := Aside0.mk (below_step W2_ hb); clear BK126; clear BK128; clear HB; have BK126 := n0_; have BK128 := n1_; have HB := n2_; clear n0_ n1_ n2_; (try clear hb); obtain ⟨z20_0, z20_1, z20_2, z20_3, z20_4, z20_5, z20_6, y20_0, y20_1, y20_2, y20_3, y20_4, y20_5, y20_6⟩ := cz7_ BK128.out; have HSR := Aside0.mk (HALL.out w19 HM.out); have hsa_ := A9.out; unfold seenAt.f at hsa_; have HSZ := Aside0.mk (show (rd_T57 l0_0 x10_1).f0.size ≤ 1000000 from by by_cases hc_ : (rd_T57 l0_0 x10_1).f0.size ≤ 1000000; exact hc_; rw [if_neg hc_] at hsa_; cases hsa_); rw [if_pos HSZ.out] at hsa_; have hlk_ := seen_look HSR.out _ HSZ.out; rw [Option.some.inj hsa_] at hlk_; clear hsa_; obtain ⟨w92, hup_, hsn_, hgr_⟩ := seen_put HSR.out (by have h1_ := HLEN.out; have h2_ := of_decide_eq_true c6b0; omega) _ HSZ.out; have nb_ := Aside0.mk (blk_grown BK126.out hgr_ (by intro e_; exact HGB.out (by simpa using e_))); have nh_ := Aside0.mk (grown_below HB.out hgr_ HGM.out); have HSN := Aside0.mk hsn_; clear BK126 HB hsn_ hgr_; have BK126 := nb_; have HB := nh_; clear nb_ nh_))
        go_roundg k1
        case measure => have := HK1.out; omega
        case rel => exact ⟨(wrap64 (x10_1 + 1)), E3_, H', ⟨by have := HK1.out; omega⟩, ⟨B1_ BK126.out⟩, ⟨by have h1_ := HLEN.out; have h2_ := of_decide_eq_true c6b0; have h3_ := of_decide_eq_true c5b0; obtain ⟨q_, rfl⟩ := Int.eq_ofNat_of_zero_le h3_; rw [show wrap64 ((q_ : Int) + 1) = ((q_ + 1 : Nat) : Int) by unfold wrap64; omega]; exact seen_same HSN.out (seen_step l0_0 q_ (by omega))⟩, ⟨W2_⟩⟩
      ·
       replace c8 := Bool.eq_false_iff.mpr c8
       subst c8
       rw [if_neg (show ¬ (false = true) by decide)] at H
       obtain rfl := Option.some.inj H
       have p127 : 0 ≤ (x10_1 : Int) := oA_
       have q127 : x10_1 < (l0_0.length : Int) := oA_
       obtain ⟨ad127, A127_6, c127_6, e127, hx127_0, hx127_1, hx127_2, hx127_3, hx127_4, hx127_5, hx127_6, hl127_6, hi127_6⟩ := at_T57 HR0_0.out x10_1 p127 q127
       cases e127
       replace hx127_0 := (HB.out.cell (World.block_lt_of_cell? w _ hx127_0)).trans hx127_0
       replace hx127_1 := (HB.out.cell (World.block_lt_of_cell? w _ hx127_1)).trans hx127_1
       replace hx127_2 := (HB.out.cell (World.block_lt_of_cell? w _ hx127_2)).trans hx127_2
       replace hx127_3 := (HB.out.cell (World.block_lt_of_cell? w _ hx127_3)).trans hx127_3
       replace hx127_4 := (HB.out.cell (World.block_lt_of_cell? w _ hx127_4)).trans hx127_4
       replace hx127_5 := (HB.out.cell (World.block_lt_of_cell? w _ hx127_5)).trans hx127_5
       replace hx127_6 := (HB.out.cell (World.block_lt_of_cell? w _ hx127_6)).trans hx127_6
       have HR127_6 := Aside0.mk hi127_6
       have HC127_6 := Aside0.mk hl127_6
       clear hi127_6 hl127_6
       replace p127 := eq_true p127
       replace q127 := eq_true q127
       go_wp2_with (first | ((with_reducible refine gate_dst (N := 5) rfl ?_); refine box_event ?hg (N := 5) ?hd (cs := #[.string (⟨#[]⟩ : ByteArray), .int .i64 0, .int .i64 0, .int .i64 0, .bool false, .bool false, .slice none 0 0]) (t := 57) ?hr ?_; (case hd | hg => rfl); (case hr => exact S1_); intro gb128 hg w21 hbox hb; have BK128 := Aside0.mk (hbox); have GW128 := Aside0.mk ((Z2_ : w.heap.size ≤ gb128)); have GE128 := Aside0.mk ((Z2_ : w.heap.size ≤ gb128)); have NB126_128 := Aside0.mk ((by rw [hg]; exact Nat.ne_of_lt (blk_lt (B1_ BK126.out)) : gb126 ≠ gb128)); have NB128_126 := Aside0.mk ((by rw [hg]; exact Nat.ne_of_gt (blk_lt (B1_ BK126.out)) : gb128 ≠ gb126)); replace BK126 := yB_ BK126 hb; replace HB := y2_ hb; clear hb hbox hg; have hnb22 := NB128_126.out; have hnc22 := NB126_128.out; obtain ⟨z23_0, z23_1, z23_2, z23_3, z23_4, z23_5, z23_6, y23_0, y23_1, y23_2, y23_3, y23_4, y23_5, y23_6⟩ := cz7_ BK128.out) | ((with_reducible refine gate_callee (f := 38) rfl ?_); refine goesL_ (some 15) rfl rfl Tryz.func38 (by kernel_rfl) rfl #[.agg #[.string ((rd_T57 l0_0 x10_1).f0), .int .i64 ((rd_T57 l0_0 x10_1).f1), .int .i64 ((rd_T57 l0_0 x10_1).f2), .int .i64 ((rd_T57 l0_0 x10_1).f3), .bool ((rd_T57 l0_0 x10_1).f4), .bool ((rd_T57 l0_0 x10_1).f5), .slice A127_6 ((rd_T57 l0_0 x10_1).f6).length c127_6]] rfl T1_ ?_; (with_reducible refine (conf_Site_Right.calls k1 ((rd_T57 l0_0 x10_1).f0) ((rd_T57 l0_0 x10_1).f1) ((rd_T57 l0_0 x10_1).f2) ((rd_T57 l0_0 x10_1).f3) ((rd_T57 l0_0 x10_1).f4) ((rd_T57 l0_0 x10_1).f5) _ _ ((rd_T57 l0_0 x10_1).f6) false _ ?side1 ?side2 A7.out).mono ?_); (case side1 => exact Kd.C_below HR127_6.out W2_); (case side2 => exact HC127_6.out); rintro e w24 ⟨rfl, hb⟩; refine ⟨_, rfl, ?_⟩; replace BK126 := Aside0.mk (blk_below (g := gb126) (o := .cells #[.slice (some ad127) l0_0.length c0_0] 24 (0, 0)) (G1_ BK126.out) hb); replace BK128 := Aside0.mk (blk_below (g := gb128) (o := .cells #[.string ((rd_T57 l0_0 x10_1).f0), .int .i64 ((rd_T57 l0_0 x10_1).f1), .int .i64 ((rd_T57 l0_0 x10_1).f2), .int .i64 ((rd_T57 l0_0 x10_1).f3), .bool ((rd_T57 l0_0 x10_1).f4), .bool ((rd_T57 l0_0 x10_1).f5), .slice A127_6 ((rd_T57 l0_0 x10_1).f6).length c127_6] 57 (0, 0)) (G1_ BK128.out) hb); replace HB := y2_ hb; (try clear hb)))
       go_ret
       exact ⟨E1_, W2_⟩
     ·
      rw [if_neg c6] at H
      exact absurd H (by simp)
    ·
     rw [if_neg c5] at H
     exact absurd H (by simp)
   ·
    rw [if_neg c4] at H
    have c4b0 : decide (x10_1 < (l0_0.length : Int)) = false := decide_eq_false c4
    clear c4
    obtain rfl := Option.some.inj H
    obtain ⟨z25_0, y25_0⟩ := cz1_ BK126.out
    go_wp2
    go_ret
    exact ⟨E1_, W2_⟩

/-! ### slices_Clone_string_string: function 40, by hand -/
theorem infoStr_ : (Tryz.prog.info? 9).map (fun i => (i.zero, i.size, i.bytes)) = some (some (.string ⟨#[]⟩), 1, 16) := by kernel_rfl
def slices_Clone_string_string.f (l : List ByteArray) : Option (List ByteArray) := if l.length ≤ 1000000000 then some l else none
set_option maxHeartbeats 2000000 in
set_option maxRecDepth 100000 in
theorem slices_Clone_string_string.calls (A : Option Addr) (c : Nat) (l : List ByteArray) (r : List ByteArray) (w : World) (hr : Kd.C Kd.string w A l.length l) (hc : l.length ≤ c) (h : slices_Clone_string_string.f l = some r) :
  Calls Tryz.prog 40 #[.slice A l.length c] w fun e w' => ∃ v0_ : Value, e = .returned (v0_) ∧ Kd.R Kd.string 9 w' w.heap.size (fun _ => True) v0_ r ∧ Below w.heap.size w w' := by
 unfold slices_Clone_string_string.f at h
 by_cases hl : l.length ≤ 1000000000
 case neg => rw [if_neg hl] at h; cases h
 rw [if_pos hl] at h
 obtain rfl := Option.some.inj h
 clear h
 have HR := Aside0.mk hr
 cases A with
 | none =>
  have hnil : l = [] := by
   cases l with
   | nil => rfl
   | cons x l => obtain ⟨ad, e, _⟩ := hr.2.2 (by simp); cases e
  subst hnil
  clear hr
  have ke : ∀ W, (binOp .eql 55 (.slice none 0 c) (.slice none 0 0)).run Tryz.prog W = .ok (.bool true) W := fun W => run_eql_slice_nil W 55 9 none _ c Tryz.underlying55
  go_enter Tryz.func40, Tryz.ntmps40
  go_wp2
  go_ret
  exact ⟨_, rfl, Kd.R_nil _ _ _ _ _, Below.refl _ _⟩
 | some ad =>
  clear hr
  have ke : ∀ W, (binOp .eql 55 (.slice (some ad) l.length c) (.slice none 0 0)).run Tryz.prog W = .ok (.bool false) W := fun W => run_eql_slice_nil W 55 9 (some ad) _ c Tryz.underlying55
  go_enter Tryz.func40, Tryz.ntmps40
  go_wp2_with (first | ((with_reducible refine gate_dst (N := 5) rfl ?_); refine Kd.R_lit Kd.string w.heap.size 9 ?hg (N := 5) ?hd (xs := ([] : List ByteArray)) (inner := []) (ok := fun _ => True) (okp := fun _ => True) ?hr (Reps.none _ _) (fun _ hk => hk) trivial (Below.refl _ _) (Nat.le_refl _) (by simp) ?_; (case hd | hg => rfl); (case hr => exact S1_); intro v1 w1 ho hb hg_ hnew_; have HO := Aside0.mk ho; have HB := Aside0.mk hb; clear ho hb hg_ hnew_) | ((with_reducible refine gate_builtin (b := .append) (xs := #[.tmp 5, .tmp 6]) rfl ?_); at_builtin; refine Kd.R_append_rows Kd.string (w0 := w) w.heap.size rfl (.tmp 5) (.tmp 6) 55 9 (.string ⟨#[]⟩) 16 rfl Tryz.underlying55 infoStr_ rfl (by decide) (by omega) v1 [] l (some ad) l.length c (fun _ => True) (fun _ => False) rfl rfl HO.out (Kd.C_below HR.out HB.out) (fun x cs hk => hk) (fun _ hk => hk.elim) (fun _ _ => trivial) HB.out HB.out.size (by simp; omega) ?_; intro v2 w2 ho hb hg hat; clear hg hat))
  go_ret
  exact ⟨_, rfl, ho, hb⟩

/-! ### plan_Table_Config: function 22 -/
def plan_Table_Config.l0 : Nat → List (S59) → Int → Int → List (S57) → Option ((List (S57)))
 | 0, _, _, _, _ => none
 | k + 1, x7, x8, x9, x134000 => if x9 < x8 then (if 0 ≤ x9 then (if x9 < (x7.length : Int) then ((slices_Clone_string_string.f ((rd_T59 x7 x9).f0.f6)).bind fun t136 => (if x134000.length < 1954687338268 then (plan_Table_Config.l0 k x7 x8 (wrap64 (x9 + 1)) (x134000 ++ [(⟨(rd_T59 x7 x9).f0.f0, (rd_T59 x7 x9).f0.f1, (rd_T59 x7 x9).f0.f2, (rd_T59 x7 x9).f0.f3, (rd_T59 x7 x9).f0.f4, (rd_T59 x7 x9).f0.f5, t136⟩ : S57)])) else (none))) else (none)) else (none)) else (some x134000)
def plan_Table_Config.f (k : Nat) (a0_0 : Int) (l0_1 : List (S59)) : Option ((List (S57))) := plan_Table_Config.l0 k l0_1 (l0_1.length : Int) 0 ([] : List (S57))
theorem plan_Table_Config.mono_l : ∀ k, (∀ y0 y1 y2 y3, LeO (plan_Table_Config.l0 k y0 y1 y2 y3) (plan_Table_Config.l0 (k + 1) y0 y1 y2 y3))
 | 0 => fun _ _ _ _ r h => by simp [plan_Table_Config.l0] at h
 | k + 1 => by
  have ih0 := plan_Table_Config.mono_l k
  ·
   intro y0 y1 y2 y3
   unfold plan_Table_Config.l0
   repeat' (with_reducible first | exact ih0 _ _ _ _ | exact lR_ | refine LeO.ite ?_ ?_ | refine LeO.bind ?_ (fun _ => ?_))
theorem plan_Table_Config.mono : ∀ a0 a1 k, LeO (plan_Table_Config.f k a0 a1) (plan_Table_Config.f (k + 1) a0 a1) := by
 intro a0 a1 k
 have ih0 := plan_Table_Config.mono_l k
 unfold plan_Table_Config.f
 repeat' (with_reducible first | exact ih0 _ _ _ _ | exact lR_ | refine LeO.ite ?_ ?_ | refine LeO.bind ?_ (fun _ => ?_))
set_option maxHeartbeats 8000000 in
set_option maxRecDepth 100000 in
theorem plan_Table_Config.calls (k : Nat) (a0_0 : Int) (A0_1 : Option Addr) (c0_1 : Nat) (l0_1 : List (S59)) (r : List (S57)) (w : World) (hr0_1 : Kd.C k59 w A0_1 l0_1.length l0_1) (hc0_1 : l0_1.length ≤ c0_1) (h : plan_Table_Config.f k a0_0 l0_1 = some r) :
  Calls Tryz.prog 22 #[.agg #[.int .i64 a0_0, .slice A0_1 l0_1.length c0_1]] w fun e w' => ∃ v0_ : Value, e = .returned (.agg #[v0_]) ∧ Kd.S k57 57 w' w.heap.size (fun _ => True) v0_ r ∧ Below w.heap.size w w' := by
 have hu44 := Tryz.underlying44
 have hu24 := Tryz.underlying24
 have hu59 := Tryz.underlying59
 have hu57 := Tryz.underlying57
 have HR0_1 := Aside0.mk hr0_1
 have HC0_1 := Aside0.mk hc0_1
 clear hr0_1 hc0_1
 have HB := Aside0.mk (Below.refl w.heap.size w)
 have H : (plan_Table_Config.l0 k l0_1 (l0_1.length : Int) 0 ([] : List (S57))) = some r := h
 clear h
 have H' := Aside0.mk H
 clear H
 go_enter Tryz.func22, Tryz.ntmps22
 go_wp2_with (first | ((with_reducible refine gate_dst (N := 1) rfl ?_); refine box_event ?hg (N := 1) ?hd (cs := #[.int .i64 a0_0, .slice A0_1 l0_1.length c0_1]) (t := 44) ?hr ?_; (case hd | hg => rfl); (case hr => exact S1_); intro gb131 hg w2 hbox hb; have BK131 := Aside0.mk (hbox); have GW131 := Aside0.mk ((Z1_ : w.heap.size ≤ gb131)); have GE131 := Aside0.mk ((Z1_ : w.heap.size ≤ gb131)); replace HB := y1_ hb; clear hb hbox hg) | ((with_reducible refine gate_dst (N := 2) rfl ?_); refine box_event ?hg (N := 2) ?hd (cs := #[.slice none 0 0]) (t := 24) ?hr ?_; (case hd | hg => rfl); (case hr => exact S1_); intro gb132 hg w3 hbox hb; have BK132 := Aside0.mk (hbox); have GW132 := Aside0.mk ((Z2_ : w.heap.size ≤ gb132)); have GE132 := Aside0.mk ((Z2_ : w.heap.size ≤ gb132)); have NB131_132 := Aside0.mk ((by rw [hg]; exact Nat.ne_of_lt (blk_lt (B1_ BK131.out)) : gb131 ≠ gb132)); have NB132_131 := Aside0.mk ((by rw [hg]; exact Nat.ne_of_gt (blk_lt (B1_ BK131.out)) : gb132 ≠ gb131)); replace BK131 := yB_ BK131 hb; replace HB := y2_ hb; clear hb hbox hg) | ((with_reducible refine gate_dst (N := 3) rfl ?_); refine box_event ?hg (N := 3) ?hd (cs := #[.slice none 0 0]) (t := 24) ?hr ?_; (case hd | hg => rfl); (case hr => exact S1_); intro gb133 hg w4 hbox hb; have BK133 := Aside0.mk (hbox); have GW133 := Aside0.mk ((Z2_ : w.heap.size ≤ gb133)); have GE133 := Aside0.mk ((Z2_ : w.heap.size ≤ gb133)); have NB131_133 := Aside0.mk ((by rw [hg]; exact Nat.ne_of_lt (blk_lt (B1_ BK131.out)) : gb131 ≠ gb133)); have NB133_131 := Aside0.mk ((by rw [hg]; exact Nat.ne_of_gt (blk_lt (B1_ BK131.out)) : gb133 ≠ gb131)); have NB132_133 := Aside0.mk ((by rw [hg]; exact Nat.ne_of_lt (blk_lt (B1_ BK132.out)) : gb132 ≠ gb133)); have NB133_132 := Aside0.mk ((by rw [hg]; exact Nat.ne_of_gt (blk_lt (B1_ BK132.out)) : gb133 ≠ gb132)); replace BK131 := yB_ BK131 hb; replace BK132 := yB_ BK132 hb; replace HB := y2_ hb; clear hb hbox hg; have hnb5 := NB131_132.out; have hnc5 := NB132_131.out; have hnb6 := NB131_133.out; have hnc6 := NB133_131.out; obtain ⟨z7_0, z7_1, y7_0, y7_1⟩ := cz2_ BK131.out))
 go_loopg [9] k (fun kq v9 w' => ∃ (x9_1 : Int) (x134000_1 : List (S57)) (u134000 : Value), v9 = .int .i64 x9_1 ∧ Aside0 (plan_Table_Config.l0 kq l0_1 (l0_1.length : Int) x9_1 x134000_1 = some r) ∧ Aside0 (kq ≤ k) ∧ Aside0 (Kd.S k57 57 w' w.heap.size (fun _ => True) u134000 x134000_1) ∧ Aside0 (w'.heap[gb131]? = some (.cells #[.int .i64 a0_0, (.slice A0_1 l0_1.length c0_1)] 44 (0, 0))) ∧ Aside0 (w'.heap[gb132]? = some (.cells #[(.slice none 0 0)] 24 (0, 0))) ∧ Aside0 (w'.heap[gb133]? = some (.cells #[u134000] 24 (0, 0))) ∧ Aside0 (Below w.heap.size w w'))
 case atStart => exact ⟨(0), (([] : List (S57))), (.slice none 0 0), E3_, H', ⟨Nat.le_refl _⟩, ⟨by first | exact Kd.S_nil _ _ _ _ _ | exact Kd.N_nil _ _ _ _ _ | exact Kd.V_nil _ _ _ _ _ | exact Kd.Q_nil _ _ _ _ _ | exact Kd.R_nil _ _ _ _ _⟩, ⟨B1_ BK131.out⟩, ⟨B1_ BK132.out⟩, ⟨B1_ BK133.out⟩, ⟨W2_⟩⟩
 case round =>
  clear H'
  (try clear z7_0 z7_1 y7_0 y7_1)
  obtain ⟨x9_1, x134000_1, u134000, rfl, HA, HK1, HO_134000, BK131, BK132, BK133, HB⟩ := hrel
  cases gk with
  | zero => exact absurd HA.out (by simp [plan_Table_Config.l0])
  | succ k1 =>
   have H := HA.out
   clear HA
   simp only [plan_Table_Config.l0] at H
   by_cases c8 : x9_1 < (l0_1.length : Int)
   ·
    rw [if_pos c8] at H
    have c8b0 : decide (x9_1 < (l0_1.length : Int)) = true := decide_eq_true c8
    clear c8
    by_cases c9 : 0 ≤ x9_1
    ·
     rw [if_pos c9] at H
     have c9b0 : decide (0 ≤ x9_1) = true := decide_eq_true c9
     clear c9
     by_cases c10 : x9_1 < (l0_1.length : Int)
     ·
      rw [if_pos c10] at H
      have c10b0 : decide (x9_1 < (l0_1.length : Int)) = true := decide_eq_true c10
      clear c10
      obtain ⟨t136, A11, H⟩ := bS_ H
      try dsimp only at H
      by_cases c12 : x134000_1.length < 1954687338268
      ·
       rw [if_pos c12] at H
       have LMc12 := Aside0.mk c12
       clear c12
       obtain ⟨y139, hy139⟩ : ∃ y_ : List (S57), y_ = (x134000_1 ++ [(⟨(rd_T59 l0_1 x9_1).f0.f0, (rd_T59 l0_1 x9_1).f0.f1, (rd_T59 l0_1 x9_1).f0.f2, (rd_T59 l0_1 x9_1).f0.f3, (rd_T59 l0_1 x9_1).f0.f4, (rd_T59 l0_1 x9_1).f0.f5, t136⟩ : S57)]) := ⟨_, rfl⟩
       replace H : (plan_Table_Config.l0 k1 l0_1 (l0_1.length : Int) (wrap64 (x9_1 + 1)) y139) = some r := by first | (rw [hy139]; with_reducible exact H) | (have H2_ := (Option.bind_some _ _).symm.trans H; rw [hy139]; with_reducible exact H2_) | (have H2_ := (Option.bind_some _ _).symm.trans H; with_reducible exact H2_) | with_reducible exact H | (rw [hy139]; exact H) | exact H
       have Ny139 := Aside0.mk hy139
       clear hy139
       have H' := Aside0.mk H
       clear H
       have p134 : 0 ≤ (x9_1 : Int) := oA_
       have q134 : x9_1 < (l0_1.length : Int) := oA_
       obtain ⟨ad134, A134_6, c134_6, e134, hx134_0, hx134_1, hx134_2, hx134_3, hx134_4, hx134_5, hx134_6, hx134_7, hl134_6, hi134_6⟩ := at_T59 HR0_1.out x9_1 p134 q134
       cases e134
       replace hx134_0 := (HB.out.cell (World.block_lt_of_cell? w _ hx134_0)).trans hx134_0
       replace hx134_1 := (HB.out.cell (World.block_lt_of_cell? w _ hx134_1)).trans hx134_1
       replace hx134_2 := (HB.out.cell (World.block_lt_of_cell? w _ hx134_2)).trans hx134_2
       replace hx134_3 := (HB.out.cell (World.block_lt_of_cell? w _ hx134_3)).trans hx134_3
       replace hx134_4 := (HB.out.cell (World.block_lt_of_cell? w _ hx134_4)).trans hx134_4
       replace hx134_5 := (HB.out.cell (World.block_lt_of_cell? w _ hx134_5)).trans hx134_5
       replace hx134_6 := (HB.out.cell (World.block_lt_of_cell? w _ hx134_6)).trans hx134_6
       replace hx134_7 := (HB.out.cell (World.block_lt_of_cell? w _ hx134_7)).trans hx134_7
       have HR134_6 := Aside0.mk hi134_6
       have HC134_6 := Aside0.mk hl134_6
       clear hi134_6 hl134_6
       replace p134 := eq_true p134
       replace q134 := eq_true q134
       go_wp2_with (first | ((with_reducible refine gate_dst (N := 5) rfl ?_); refine box_event ?hg (N := 5) ?hd (cs := #[.string (⟨#[]⟩ : ByteArray), .int .i64 0, .int .i64 0, .int .i64 0, .bool false, .bool false, .slice none 0 0, .int .i64 0]) (t := 59) ?hr ?_; (case hd | hg => rfl); (case hr => exact S1_); intro gb135 hg w13 hbox hb; have BK135 := Aside0.mk (hbox); have GW135 := Aside0.mk ((Z2_ : w.heap.size ≤ gb135)); have GE135 := Aside0.mk ((Z2_ : w.heap.size ≤ gb135)); have NB131_135 := Aside0.mk ((by rw [hg]; exact Nat.ne_of_lt (blk_lt (B1_ BK131.out)) : gb131 ≠ gb135)); have NB135_131 := Aside0.mk ((by rw [hg]; exact Nat.ne_of_gt (blk_lt (B1_ BK131.out)) : gb135 ≠ gb131)); have NB132_135 := Aside0.mk ((by rw [hg]; exact Nat.ne_of_lt (blk_lt (B1_ BK132.out)) : gb132 ≠ gb135)); have NB135_132 := Aside0.mk ((by rw [hg]; exact Nat.ne_of_gt (blk_lt (B1_ BK132.out)) : gb135 ≠ gb132)); have NB133_135 := Aside0.mk ((by rw [hg]; exact Nat.ne_of_lt (blk_lt (B1_ BK133.out)) : gb133 ≠ gb135)); have NB135_133 := Aside0.mk ((by rw [hg]; exact Nat.ne_of_gt (blk_lt (B1_ BK133.out)) : gb135 ≠ gb133)); replace HO_134000 := Aside0.mk (Kd.S_below (by (with_reducible repeat (first | apply Kd.S_alloc | apply Kd.S_drewN | apply Kd.S_drew)); exact HO_134000.out) hb); replace BK131 := yB_ BK131 hb; replace BK132 := yB_ BK132 hb; replace BK133 := yB_ BK133 hb; replace HB := y2_ hb; clear hb hbox hg; have hnb14 := NB135_131.out; have hnc14 := NB131_135.out; have hnb15 := NB135_132.out; have hnc15 := NB132_135.out; have hnb16 := NB135_133.out; have hnc16 := NB133_135.out; obtain ⟨z17_0, z17_1, z17_2, z17_3, z17_4, z17_5, z17_6, z17_7, y17_0, y17_1, y17_2, y17_3, y17_4, y17_5, y17_6, y17_7⟩ := cz8_ BK135.out) | ((with_reducible refine gate_callee (f := 40) rfl ?_); refine goesL_ (some 16) rfl rfl Tryz.func40 (by kernel_rfl) rfl #[.slice A134_6 ((rd_T59 l0_1 x9_1).f0.f6).length c134_6] rfl T1_ ?_; (with_reducible refine (slices_Clone_string_string.calls _ _ ((rd_T59 l0_1 x9_1).f0.f6) t136 _ ?side1 ?side2 A11.out).mono ?_); (case side1 => exact Kd.C_below HR134_6.out W2_); (case side2 => exact HC134_6.out); rintro e w18 ⟨v137, rfl, ho0, hb⟩; refine ⟨_, rfl, ?_⟩; replace HO_134000 := Aside0.mk (Kd.S_elder' (by (with_reducible repeat (first | apply Kd.S_alloc | apply Kd.S_drewN | apply Kd.S_drew)); exact (Kd.S_mono (Kd.S_far (p := ⟨gb135, 7, none⟩) (Kd.S_far (p := ⟨gb135, 6, none⟩) (Kd.S_far (p := ⟨gb135, 5, none⟩) (Kd.S_far (p := ⟨gb135, 4, none⟩) (Kd.S_far (p := ⟨gb135, 3, none⟩) (Kd.S_far (p := ⟨gb135, 2, none⟩) (Kd.S_far (p := ⟨gb135, 1, none⟩) (Kd.S_far (p := ⟨gb135, 0, none⟩) (Kd.S_types HO_134000.out BK135.out (by decide)) (fun _ hk => hk.2) (.string ((rd_T59 l0_1 x9_1).f0.f0))) (fun _ hk => hk.2) (.int .i64 ((rd_T59 l0_1 x9_1).f0.f1))) (fun _ hk => hk.2) (.int .i64 ((rd_T59 l0_1 x9_1).f0.f2))) (fun _ hk => hk.2) (.int .i64 ((rd_T59 l0_1 x9_1).f0.f3))) (fun _ hk => hk.2) (.bool ((rd_T59 l0_1 x9_1).f0.f4))) (fun _ hk => hk.2) (.bool ((rd_T59 l0_1 x9_1).f0.f5))) (fun _ hk => hk.2) (.slice A134_6 ((rd_T59 l0_1 x9_1).f0.f6).length c134_6)) (fun _ hk => hk.2) (.int .i64 ((rd_T59 l0_1 x9_1).f1))) (fun _ h_ => h_.1))) (Kd.R_base ho0) hb); have HO138 := Aside0.mk (Kd.R_lower ho0 (below_size W2_)); replace BK131 := Aside0.mk (blk_below (g := gb131) (o := .cells #[.int .i64 a0_0, .slice (some ad134) l0_1.length c0_1] 44 (0, 0)) (G1_ BK131.out) hb); replace BK132 := Aside0.mk (blk_below (g := gb132) (o := .cells #[.slice none 0 0] 24 (0, 0)) (G1_ BK132.out) hb); replace BK133 := Aside0.mk (blk_below (g := gb133) (o := .cells #[u134000] 24 (0, 0)) (G1_ BK133.out) hb); replace BK135 := Aside0.mk (blk_below (g := gb135) (o := .cells #[.string ((rd_T59 l0_1 x9_1).f0.f0), .int .i64 ((rd_T59 l0_1 x9_1).f0.f1), .int .i64 ((rd_T59 l0_1 x9_1).f0.f2), .int .i64 ((rd_T59 l0_1 x9_1).f0.f3), .bool ((rd_T59 l0_1 x9_1).f0.f4), .bool ((rd_T59 l0_1 x9_1).f0.f5), .slice A134_6 ((rd_T59 l0_1 x9_1).f0.f6).length c134_6, .int .i64 ((rd_T59 l0_1 x9_1).f1)] 59 (0, 0)) (G1_ BK135.out) hb); replace HB := y2_ hb; (try clear hb); (try clear hk); (try clear ho0); obtain ⟨Ao19, co19, eo19⟩ := Kd.R_slice HO138.out; subst eo19; obtain ⟨z20_0, z20_1, z20_2, z20_3, z20_4, z20_5, z20_6, z20_7, y20_0, y20_1, y20_2, y20_3, y20_4, y20_5, y20_6, y20_7⟩ := cz8_ BK135.out) | ((with_reducible refine gate_store (t := 55) (p := 18) rfl ?_); refine store_event (t := 55) (p := 18) (v := ?vo_w21) (w1 := (w18.setCell ⟨gb135, 6, none⟩ (.slice Ao19 t136.length co19))) ?hg ?ho ?hn ?hr ?_; (case ho => rfl); (case hg => rfl); (case hn => rfl); (case hr => first | (go_simp; done) | (go_simp; rfl)); intro w21 hw; have n0_ : Aside0 (Kd.S k57 57 w21 w.heap.size (fun k_ => some k_ ≠ (.slice Ao19 t136.length co19 : Value).ownBlock) u134000 x134000_1) := ⟨(by rw [hw]; exact (by (with_reducible repeat (first | apply Kd.S_alloc | apply Kd.S_drewN | apply Kd.S_drew)); exact Kd.S_mono (Kd.S_far (p := ⟨gb135, 6, none⟩) (Kd.S_types HO_134000.out BK135.out (by decide)) (fun _ hk => hk.2) (.slice Ao19 t136.length co19)) (fun _ hk => hk.1.2)))⟩; have n1_ : Aside0 (Kd.R Kd.string 9 w21 w.heap.size (fun _ => True) (.slice Ao19 t136.length co19) t136) := ⟨(by rw [hw]; exact (by refine R1_ ?_; exact Kd.R_mono (Kd.R_far (p := ⟨gb135, 6, none⟩) (Kd.R_types HO138.out BK135.out (by decide)) (fun _ hk => hk.2) (.slice Ao19 t136.length co19)) (fun _ hk => trivial)))⟩; have n2_ : Aside0 (w21.heap[gb131]? = some (.cells #[.int .i64 a0_0, .slice (some ad134) l0_1.length c0_1] 44 (0, 0))) := ⟨(by rw [hw]; exact (G1_ BK131.out))⟩; have n3_ : Aside0 (w21.heap[gb132]? = some (.cells #[.slice none 0 0] 24 (0, 0))) := ⟨(by rw [hw]; exact (G1_ BK132.out))⟩; have n4_ : Aside0 (w21.heap[gb133]? = some (.cells #[u134000] 24 (0, 0))) := ⟨(by rw [hw]; exact (G1_ BK133.out))⟩; have n5_ : Aside0 (w21.heap[gb135]? = some (.cells #[.string ((rd_T59 l0_1 x9_1).f0.f0), .int .i64 ((rd_T59 l0_1 x9_1).f0.f1), .int .i64 ((rd_T59 l0_1 x9_1).f0.f2), .int .i64 ((rd_T59 l0_1 x9_1).f0.f3), .bool ((rd_T59 l0_1 x9_1).f0.f4), .bool ((rd_T59 l0_1 x9_1).f0.f5), .slice Ao19 t136.length co19, .int .i64 ((rd_T59 l0_1 x9_1).f1)] 59 (0, 0))) := ⟨(by rw [hw]; exact (G1_ BK135.out))⟩; have n6_ : Aside0 (Below w.heap.size w w21) := ⟨(by rw [hw]; exact W2_)⟩; clear hw; clear HO_134000; clear HO138; clear BK131; clear BK132; clear BK133; clear BK135; clear HB; have HO_134000 := n0_; have HO138 := n1_; have BK131 := n2_; have BK132 := n3_; have BK133 := n4_; have BK135 := n5_; have HB := n6_; clear n0_ n1_ n2_ n3_ n4_ n5_ n6_; have hnb22 := NB133_131.out; have hnc22 := NB131_133.out; have hnb23 := NB133_132.out; have hnc23 := NB132_133.out; obtain ⟨z24_0, y24_0⟩ := cz1_ BK133.out; obtain ⟨z25_0, z25_1, z25_2, z25_3, z25_4, z25_5, z25_6, z25_7, y25_0, y25_1, y25_2, y25_3, y25_4, y25_5, y25_6, y25_7⟩ := cz8_ BK135.out) | ((with_reducible refine gate_builtin (b := .append) (xs := #[.tmp 20, .tmp 23]) rfl ?_); at_builtin; refine Kd.S_append k57 (w0 := w) w.heap.size rfl (.tmp 20) (.tmp 23) 22 57 (.agg #[(.string ⟨#[]⟩), (.int .i64 0), (.int .i64 0), (.int .i64 0), (.bool false), (.bool false), (.slice none 0 0)]) 72 rfl Tryz.underlying22 info57 rfl (by decide) (by omega) u134000 x134000_1 (⟨(rd_T59 l0_1 x9_1).f0.f0, (rd_T59 l0_1 x9_1).f0.f1, (rd_T59 l0_1 x9_1).f0.f2, (rd_T59 l0_1 x9_1).f0.f3, (rd_T59 l0_1 x9_1).f0.f4, (rd_T59 l0_1 x9_1).f0.f5, t136⟩ : S57) [.string ((rd_T59 l0_1 x9_1).f0.f0), .int .i64 ((rd_T59 l0_1 x9_1).f0.f1), .int .i64 ((rd_T59 l0_1 x9_1).f0.f2), .int .i64 ((rd_T59 l0_1 x9_1).f0.f3), .bool ((rd_T59 l0_1 x9_1).f0.f4), .bool ((rd_T59 l0_1 x9_1).f0.f5), .slice Ao19 t136.length co19] (fun _ => True) (fun k_ => some k_ = (.slice Ao19 t136.length co19 : Value).ownBlock) rfl rfl ?aP (fun k_ hk_ => ((Kd.R_mono (ok' := fun k_ => ((fun _ => True)) k_ ∧ some k_ ≠ (u134000 : Value).ownBlock) (Kd.R_apart' (HO138.out) (Kd.S_typed HO_134000.out) (by decide)) (fun k_ hk => ⟨trivial, hk.2⟩))).1 k_ hk_.symm) ?aF ?aO ?aB ?aS ?aL ?_; (case aP => exact k57_mkM _ _ _ (⟨(rd_T59 l0_1 x9_1).f0.f0, (rd_T59 l0_1 x9_1).f0.f1, (rd_T59 l0_1 x9_1).f0.f2, (rd_T59 l0_1 x9_1).f0.f3, (rd_T59 l0_1 x9_1).f0.f4, (rd_T59 l0_1 x9_1).f0.f5, t136⟩ : S57) (Kd.R_mono (Kd.R_tight rfl (Kd.R_mono (ok' := fun k_ => ((fun _ => True)) k_ ∧ some k_ ≠ (u134000 : Value).ownBlock) (Kd.R_apart' (HO138.out) (Kd.S_typed HO_134000.out) (by decide)) (fun k_ hk => ⟨trivial, hk.2⟩))) (fun _ h_ => h_))); (case aB => exact W2_); (case aF => exact (fun _ _ => trivial)); (case aO => exact (by (with_reducible repeat (first | apply Kd.S_alloc | apply Kd.S_drewN | apply Kd.S_drew)); exact Kd.S_mono HO_134000.out (fun k_ hk => ⟨trivial, fun e_ => hk e_⟩))); (case aS => exact (below_size W2_)); (case aL => have := LMc12.out; omega); intro v140 w26 ho hb hg hat; rw [← Ny139.out] at ho; have n0_ := Aside0.mk (blk_grown (g := gb131) (o := .cells #[.int .i64 a0_0, .slice (some ad134) l0_1.length c0_1] 44 (0, 0)) (B1_ BK131.out) hg (Kd.S_ne HO_134000.out BK131.out (by decide))); have n1_ := Aside0.mk (blk_grown (g := gb132) (o := .cells #[.slice none 0 0] 24 (0, 0)) (B1_ BK132.out) hg (Kd.S_ne HO_134000.out BK132.out (by decide))); have n2_ := Aside0.mk (blk_grown (g := gb133) (o := .cells #[u134000] 24 (0, 0)) (B1_ BK133.out) hg (Kd.S_ne HO_134000.out BK133.out (by decide))); have n3_ := Aside0.mk (blk_grown (g := gb135) (o := .cells #[.string ((rd_T59 l0_1 x9_1).f0.f0), .int .i64 ((rd_T59 l0_1 x9_1).f0.f1), .int .i64 ((rd_T59 l0_1 x9_1).f0.f2), .int .i64 ((rd_T59 l0_1 x9_1).f0.f3), .bool ((rd_T59 l0_1 x9_1).f0.f4), .bool ((rd_T59 l0_1 x9_1).f0.f5), .slice Ao19 t136.length co19, .int .i64 ((rd_T59 l0_1 x9_1).f1)] 59 (0, 0)) (B1_ BK135.out) hg (Kd.S_ne HO_134000.out BK135.out (by decide))); have n4_ := Aside0.mk (hb); have n5_ := Aside0.mk (ho); clear BK131; clear BK132; clear BK133; clear BK135; clear HB; clear HO_134000; clear HO138; have BK131 := n0_; have BK132 := n1_; have BK133 := n2_; have BK135 := n3_; have HB := n4_; have HO141 := n5_; clear n0_ n1_ n2_ n3_ n4_ n5_; clear ho hb hg hat; obtain ⟨Ao27, co27, eo27⟩ := Kd.S_slice HO141.out; subst eo27; obtain ⟨z28_0, y28_0⟩ := cz1_ BK133.out))
       go_roundg k1
       case measure => have := HK1.out; omega
       case rel => exact ⟨(wrap64 (x9_1 + 1)), (y139), (.slice Ao27 y139.length co27), E3_, H', ⟨by have := HK1.out; omega⟩, ⟨by (with_reducible repeat (first | apply Kd.S_alloc | apply Kd.S_drewN | apply Kd.S_drew)); exact Kd.S_mono (Kd.S_far (p := ⟨gb133, 0, none⟩) (Kd.S_types HO141.out BK133.out (by decide)) (fun _ hk => hk.2) (.slice Ao27 y139.length co27)) (fun _ hk => trivial)⟩, ⟨G1_ BK131.out⟩, ⟨G1_ BK132.out⟩, ⟨G1_ BK133.out⟩, ⟨W2_⟩⟩
      ·
       rw [if_neg c12] at H
       exact absurd H (by simp)
     ·
      rw [if_neg c10] at H
      exact absurd H (by simp)
    ·
     rw [if_neg c9] at H
     exact absurd H (by simp)
   ·
    rw [if_neg c8] at H
    have c8b0 : decide (x9_1 < (l0_1.length : Int)) = false := decide_eq_false c8
    clear c8
    obtain rfl := Option.some.inj H
    have hnb29 := NB133_131.out
    have hnc29 := NB131_133.out
    have hnb30 := NB133_132.out
    have hnc30 := NB132_133.out
    obtain ⟨z31_0, y31_0⟩ := cz1_ BK133.out
    obtain ⟨Ao32, co32, eo32⟩ := Kd.S_slice HO_134000.out
    subst eo32
    have hnb33 := NB132_131.out
    have hnc33 := NB131_132.out
    obtain ⟨z34_0, y34_0⟩ := cz1_ BK132.out
    go_wp2
    refine bodyPost_ret (results_cell_row rfl _ _ gb132 24 #[.slice Ao32 x134000_1.length co32] (0, 0) _ rfl (G1_ BK132.out) Tryz.underlying24 rfl (by kernel_rfl)) rfl ?_
    exact ⟨_, E1_, by (with_reducible repeat (first | apply Kd.S_alloc | apply Kd.S_drewN | apply Kd.S_drew)); exact Kd.S_mono (Kd.S_far (p := ⟨gb132, 0, none⟩) (Kd.S_types HO_134000.out BK132.out (by decide)) (fun _ hk => hk.2) (.slice Ao32 x134000_1.length co32)) (fun _ hk => trivial), W2_⟩

-- NOT PRINTED: function 42 (plan_Table_Right_1)

/-! ### plan_Rules_56: function 56, by hand -/
-- over slices_IndexFunc_string_string
set_option maxHeartbeats 4000000 in
set_option maxRecDepth 100000 in
theorem IndexFunc_rules (p : S59 → Bool) (g : Nat) (lb : Array Value) (eg : ∀ args w, (callFunc g args).run Tryz.prog w = .ok (.enter g args) w) (A : Option Addr) (c : Nat) (l : List S59) (w : World)
  (hp : ∀ (W : World) (x : S59) (A6 : Option Addr) (c6 : Nat), x ∈ l → Below w.heap.size w W → Calls Tryz.prog g (#[.agg #[.string x.f0.f0, .int .i64 x.f0.f1, .int .i64 x.f0.f2, .int .i64 x.f0.f3, .bool x.f0.f4, .bool x.f0.f5, .slice A6 x.f0.f6.length c6, .int .i64 x.f1]] ++ lb) W fun e w' => e = .returned (.bool (p x)) ∧ Below W.heap.size W w')
  (hr : Kd.C k59 w A l.length l) (hc : l.length ≤ c) (hbig : l.length ≤ 9223372036854775806) :
  Calls Tryz.prog 56 #[.slice A l.length c, .func (.func g) #[] lb] w fun e w' => e = .returned (.int .i64 (idxP p l)) ∧ Below w.heap.size w w' := by
 have HR := Aside0.mk hr
 have HP := Aside0.mk hp
 clear hr hp
 go_enter Tryz.func56, Tryz.ntmps56
 go_wp2
 go_loopw [8] (fun i wr => ∃ k : Nat, k ≤ l.length ∧ i = .int .i64 k ∧ Aside0 (Below w.heap.size w wr) ∧ Aside0 (∀ j (hj : j < l.length), j < k → p l[j] = false)) (fun i _ => l.length - (intOf i).toNat)
 case atStart => exact ⟨0, Nat.zero_le _, rfl, ⟨Below.refl _ _⟩, ⟨fun j hj h => absurd h (Nat.not_lt_zero _)⟩⟩
 case round =>
  obtain ⟨k, hk, rfl, HB, HN⟩ := hrel
  by_cases hlt : k < l.length
  ·
   obtain ⟨ad, A6, c6, rfl, h0, h1, h2, h3, h4, h5, h6, h7, hl6, hi6⟩ := at_T59 HR.out (k : Int) (by omega) (by omega)
   clear hl6 hi6
   replace h0 := pw_cell_below (HB.out) h0
   replace h1 := pw_cell_below (HB.out) h1
   replace h2 := pw_cell_below (HB.out) h2
   replace h3 := pw_cell_below (HB.out) h3
   replace h4 := pw_cell_below (HB.out) h4
   replace h5 := pw_cell_below (HB.out) h5
   replace h6 := pw_cell_below (HB.out) h6
   replace h7 := pw_cell_below (HB.out) h7
   have hx : rd_T59 l (k : Int) = l[k] := by simp [rd_T59, hlt]
   rw [hx] at h0 h1 h2 h3 h4 h5 h6 h7
   simp only [Int.toNat_natCast] at h0 h1 h2 h3 h4 h5 h6 h7
   have hcall := HP.out wr l[k] A6 c6 (List.getElem_mem hlt) HB.out
   obtain ⟨y, hy⟩ : ∃ y, y = l[k] := ⟨_, rfl⟩
   rw [← hy] at h0 h1 h2 h3 h4 h5 h6 h7 hcall
   have HY := Aside0.mk hy
   clear hy hx
   have p5 : ((0 : Int) ≤ (k : Int)) = True := eq_true (by omega)
   have q5 : ((k : Int) < (l.length : Int)) = True := eq_true (by omega)
   cases hq : p y with
   | true =>
    rw [hq] at hcall
    go_wp2_with (go_at_fn g; refine hcall.mono ?_; rintro e w' ⟨rfl, hb'⟩)
    go_ret
    refine ⟨?_, below_then HB.out HB.out.size hb'⟩
    rw [idxP_hit p l k hlt (by rw [← HY.out]; exact hq) HN.out]
    rfl
   | false =>
    rw [hq] at hcall
    go_wp2_with (go_at_fn g; refine hcall.mono ?_; rintro e w' ⟨rfl, hb'⟩)
    go_roundw
    case rel =>
     refine ⟨k + 1, by omega, by simp, ⟨below_then HB.out HB.out.size hb'⟩, ⟨fun j hj h => ?_⟩⟩
     by_cases e : j = k
     ·
      subst e
      rw [← HY.out]; exact hq
     ·
      exact HN.out j hj (by omega)
    case measure => simp [intOf]; omega
  ·
   have q5 : ((k : Int) < (l.length : Int)) = False := eq_false (by omega)
   go_wp2
   go_ret
   refine ⟨?_, HB.out⟩
   rw [idxP_miss p l (fun j hj => HN.out j hj (by omega))]
   rfl

/-! ### plan_Rules_41: function 41, by hand -/
-- over 56
set_option maxHeartbeats 2000000 in
set_option maxRecDepth 100000 in
theorem ContainsFunc_rules (p : S59 → Bool) (g : Nat) (lb : Array Value) (eg : ∀ args w, (callFunc g args).run Tryz.prog w = .ok (.enter g args) w) (A : Option Addr) (c : Nat) (l : List S59) (w : World)
  (hp : ∀ (W : World) (x : S59) (A6 : Option Addr) (c6 : Nat), x ∈ l → Below w.heap.size w W → Calls Tryz.prog g (#[.agg #[.string x.f0.f0, .int .i64 x.f0.f1, .int .i64 x.f0.f2, .int .i64 x.f0.f3, .bool x.f0.f4, .bool x.f0.f5, .slice A6 x.f0.f6.length c6, .int .i64 x.f1]] ++ lb) W fun e w' => e = .returned (.bool (p x)) ∧ Below W.heap.size W w')
  (hr : Kd.C k59 w A l.length l) (hc : l.length ≤ c) (hbig : l.length ≤ 9223372036854775806) :
  Calls Tryz.prog 41 #[.slice A l.length c, .func (.func g) #[] lb] w fun e w' => e = .returned (.bool (l.any p)) ∧ Below w.heap.size w w' := by
 have C := IndexFunc_rules p g lb eg A c l w hp hr hc hbig
 have hd := idxP_nonneg p l
 generalize idxP p l = z at *
 clear hp hr
 go_enter Tryz.func41, Tryz.ntmps41
 go_wp2_with (go_at_call 56; refine C.mono ?_; rintro e w' ⟨rfl, hb'⟩)
 go_ret
 exact ⟨by rw [← hd]; rfl, hb'⟩
def sinceBad (g : Int) (r : S59) : Bool := decide (r.f1 < 1) || decide (g < r.f1)
set_option maxHeartbeats 2000000 in
set_option maxRecDepth 100000 in
theorem TableRight1_calls (x : S59) (A6 : Option Addr) (c6 : Nat) (gen : Int) (B : Nat) (W : World) (hc : W.cell? ⟨B, 0, none⟩ = some (.int .i64 gen)) :
  Calls Tryz.prog 42 #[.agg #[.string x.f0.f0, .int .i64 x.f0.f1, .int .i64 x.f0.f2, .int .i64 x.f0.f3, .bool x.f0.f4, .bool x.f0.f5, .slice A6 x.f0.f6.length c6, .int .i64 x.f1], .pointer (some ⟨B, 0, none⟩)] W fun e w' => e = .returned (.bool (sinceBad gen x)) ∧ Below W.heap.size W w' := by
 have hne : B < W.heap.size := World.block_lt_of_cell? W _ hc
 have hne' : B ≠ W.heap.size := by omega
 have hne2 : ¬ B = W.heap.size := hne'
 unfold sinceBad
 cases h1 : decide (x.f1 < 1) with
 | true =>
  go_enter Tryz.func42, Tryz.ntmps42
  go_wp2
  go_ret
  exact ⟨rfl, (Below.refl _ W).alloc (Nat.le_refl _) _⟩
 | false =>
  cases h2 : decide (gen < x.f1) with
  | true =>
   go_enter Tryz.func42, Tryz.ntmps42
   go_wp2
   go_ret
   exact ⟨rfl, (Below.refl _ W).alloc (Nat.le_refl _) _⟩
  | false =>
   go_enter Tryz.func42, Tryz.ntmps42
   go_wp2
   go_ret
   exact ⟨rfl, (Below.refl _ W).alloc (Nat.le_refl _) _⟩
def plan_Rules_41.f (l0 : List S59) (a1_0 : Int) (_l1_1 : List S59) : Option Bool := if l0.length ≤ 1000000 then some (l0.any (sinceBad a1_0)) else none
theorem plan_Rules_41.calls (A0 : Option Addr) (c0 : Nat) (l0 : List S59) (a1_0 : Int) (A1_1 : Option Addr) (c1_1 : Nat) (l1_1 : List S59) (r : Bool) (w : World) (hr0 : Kd.C k59 w A0 l0.length l0) (hc0 : l0.length ≤ c0) (_hr1_1 : Kd.C k59 w A1_1 l1_1.length l1_1) (_hc1_1 : l1_1.length ≤ c1_1) {g : Nat} (hb : w.heap[g]? = some (.cells #[.int .i64 a1_0, .slice A1_1 l1_1.length c1_1] 44 (0, 0))) (h : plan_Rules_41.f l0 a1_0 l1_1 = some r) :
  Calls Tryz.prog 41 #[.slice A0 l0.length c0, .func (.func 42) #[] #[.pointer (some ⟨g, 0, none⟩)]] w fun e w' => e = .returned (.bool r) ∧ Below w.heap.size w w' := by
 unfold plan_Rules_41.f at h
 by_cases hok : l0.length ≤ 1000000
 case neg => rw [if_neg hok] at h; cases h
 rw [if_pos hok] at h
 obtain rfl := Option.some.inj h
 have eg : ∀ args w, (callFunc 42 args).run Tryz.prog w = .ok (.enter 42 args) w := enters_of Tryz.func42 (by kernel_rfl) rfl
 have hb0 : w.cell? ⟨g, 0, none⟩ = some (.int .i64 a1_0) := (blk_cell hb 0).trans rfl
 exact ContainsFunc_rules (sinceBad a1_0) 42 #[.pointer (some ⟨g, 0, none⟩)] eg A0 c0 l0 w (fun W x A6 c6 _ hb2 => TableRight1_calls x A6 c6 a1_0 g W (pw_cell_below hb2 hb0)) hr0 hc0 (by omega)

/-! ### plan_Table_Right: function 19 -/
def plan_Table_Right.f (k : Nat) (a0_0 : Int) (l0_1 : List (S59)) : Option (Bool) := if a0_0 < 0 then (some false) else (if a0_0 > 253402300799 then (some false) else ((plan_Table_Config.f k a0_0 l0_1).bind fun t143 => ((conf_Config_Right.f k t143).bind fun t146 => (if t146 = true then ((plan_Rules_41.f l0_1 a0_0 l0_1).bind fun t147 => (some (!t147))) else (some false)))))
theorem plan_Table_Right.mono : ∀ a0 a1 k, LeO (plan_Table_Right.f k a0 a1) (plan_Table_Right.f (k + 1) a0 a1) := by
 intro a0 a1 k
 unfold plan_Table_Right.f
 repeat' (with_reducible first | exact conf_Config_Right.mono _ _ | exact plan_Table_Config.mono _ _ _ | exact lR_ | refine LeO.ite ?_ ?_ | refine LeO.bind ?_ (fun _ => ?_))
set_option maxHeartbeats 8000000 in
set_option maxRecDepth 100000 in
theorem plan_Table_Right.calls (k : Nat) (a0_0 : Int) (A0_1 : Option Addr) (c0_1 : Nat) (l0_1 : List (S59)) (r : Bool) (w : World) (hr0_1 : Kd.C k59 w A0_1 l0_1.length l0_1) (hc0_1 : l0_1.length ≤ c0_1) (h : plan_Table_Right.f k a0_0 l0_1 = some r) :
  Calls Tryz.prog 19 #[.agg #[.int .i64 a0_0, .slice A0_1 l0_1.length c0_1]] w fun e w' => e = .returned (.bool r) ∧ Below w.heap.size w w' := by
 have hu44 := Tryz.underlying44
 have HR0_1 := Aside0.mk hr0_1
 have HC0_1 := Aside0.mk hc0_1
 clear hr0_1 hc0_1
 have HB := Aside0.mk (Below.refl w.heap.size w)
 have H : (if a0_0 < 0 then (some false) else (if a0_0 > 253402300799 then (some false) else ((plan_Table_Config.f k a0_0 l0_1).bind fun t143 => ((conf_Config_Right.f k t143).bind fun t146 => (if t146 = true then ((plan_Rules_41.f l0_1 a0_0 l0_1).bind fun t147 => (some (!t147))) else (some false)))))) = some r := h
 clear h
 by_cases c2 : a0_0 < 0
 ·
  rw [if_pos c2] at H
  have c2b0 : decide (a0_0 < 0) = true := decide_eq_true c2
  clear c2
  obtain rfl := Option.some.inj H
  go_enter Tryz.func19, Tryz.ntmps19
  go_wp2_with (first | ((with_reducible refine gate_dst (N := 1) rfl ?_); refine box_event ?hg (N := 1) ?hd (cs := #[.int .i64 a0_0, .slice A0_1 l0_1.length c0_1]) (t := 44) ?hr ?_; (case hd | hg => rfl); (case hr => exact S1_); intro gb142 hg w3 hbox hb; have BK142 := Aside0.mk (hbox); have GW142 := Aside0.mk ((Z1_ : w.heap.size ≤ gb142)); have GE142 := Aside0.mk ((Z1_ : w.heap.size ≤ gb142)); replace HB := y1_ hb; clear hb hbox hg; obtain ⟨z4_0, z4_1, y4_0, y4_1⟩ := cz2_ BK142.out))
  go_ret
  exact ⟨E1_, W2_⟩
 ·
  rw [if_neg c2] at H
  have c2b0 : decide (a0_0 < 0) = false := decide_eq_false c2
  clear c2
  by_cases c5 : a0_0 > 253402300799
  ·
   rw [if_pos c5] at H
   have c5b0 : decide (253402300799 < a0_0) = true := decide_eq_true c5
   clear c5
   obtain rfl := Option.some.inj H
   go_enter Tryz.func19, Tryz.ntmps19
   go_wp2_with (first | ((with_reducible refine gate_dst (N := 1) rfl ?_); refine box_event ?hg (N := 1) ?hd (cs := #[.int .i64 a0_0, .slice A0_1 l0_1.length c0_1]) (t := 44) ?hr ?_; (case hd | hg => rfl); (case hr => exact S1_); intro gb142 hg w6 hbox hb; have BK142 := Aside0.mk (hbox); have GW142 := Aside0.mk ((Z1_ : w.heap.size ≤ gb142)); have GE142 := Aside0.mk ((Z1_ : w.heap.size ≤ gb142)); replace HB := y1_ hb; clear hb hbox hg; obtain ⟨z7_0, z7_1, y7_0, y7_1⟩ := cz2_ BK142.out))
   go_ret
   exact ⟨E1_, W2_⟩
  ·
   rw [if_neg c5] at H
   have c5b0 : decide (253402300799 < a0_0) = false := decide_eq_false c5
   clear c5
   obtain ⟨t143, A8, H⟩ := bS_ H
   try dsimp only at H
   obtain ⟨t146, A9, H⟩ := bS_ H
   try dsimp only at H
   by_cases c10 : t146 = true
   ·
    subst c10
    rw [if_pos rfl] at H
    obtain ⟨t147, A11, H⟩ := bS_ H
    try dsimp only at H
    obtain rfl := Option.some.inj H
    go_enter Tryz.func19, Tryz.ntmps19
    go_wp2_with (first | ((with_reducible refine gate_dst (N := 1) rfl ?_); refine box_event ?hg (N := 1) ?hd (cs := #[.int .i64 a0_0, .slice A0_1 l0_1.length c0_1]) (t := 44) ?hr ?_; (case hd | hg => rfl); (case hr => exact S1_); intro gb142 hg w12 hbox hb; have BK142 := Aside0.mk (hbox); have GW142 := Aside0.mk ((Z1_ : w.heap.size ≤ gb142)); have GE142 := Aside0.mk ((Z1_ : w.heap.size ≤ gb142)); replace HB := y1_ hb; clear hb hbox hg; obtain ⟨z13_0, z13_1, y13_0, y13_1⟩ := cz2_ BK142.out) | (go_at_call 22; (with_reducible refine (plan_Table_Config.calls k a0_0 _ _ l0_1 t143 _ ?side1 ?side2 A8.out).mono ?_); (case side1 => exact C1_ ((Kd.C_below HR0_1.out HB.out))); (case side2 => exact HC0_1.out); rintro e w14 ⟨v144, rfl, ho0, hb⟩; have HO145 := Aside0.mk (Kd.S_lower ho0 (below_size W2_)); replace BK142 := yB_ BK142 hb; replace HB := y2_ hb; (try clear hb); (try clear ho0); obtain ⟨Ao15, co15, eo15⟩ := Kd.S_slice HO145.out; subst eo15) | (go_at_call 15; (with_reducible refine (conf_Config_Right.calls k _ _ t143 true _ ?side1 ?side2 A9.out).mono ?_); (case side1 => exact C1_ ((Kd.S_reads' HO145.out).2.2)); (case side2 => exact (Kd.S_reads' HO145.out).2.1); rintro e w16 ⟨rfl, hb⟩; replace HO145 := Aside0.mk (Kd.S_below (by (with_reducible repeat (first | apply Kd.S_alloc | apply Kd.S_drewN | apply Kd.S_drew)); exact HO145.out) hb); replace BK142 := yB_ BK142 hb; replace HB := y2_ hb; (try clear hb); obtain ⟨z17_0, z17_1, y17_0, y17_1⟩ := cz2_ BK142.out) | (go_at_call 41; (with_reducible refine (plan_Rules_41.calls _ _ l0_1 a0_0 A0_1 c0_1 l0_1 t147 _ ?side1 ?side2 ?side3 ?side4 ?side5 A11.out).mono ?_); (case side1 => exact C1_ ((Kd.C_below HR0_1.out HB.out))); (case side2 => exact HC0_1.out); (case side3 => exact C1_ ((Kd.C_below HR0_1.out HB.out))); (case side4 => exact HC0_1.out); (case side5 => exact (B1_ BK142.out)); rintro e w18 ⟨rfl, hb⟩; replace HO145 := Aside0.mk (Kd.S_below (by (with_reducible repeat (first | apply Kd.S_alloc | apply Kd.S_drewN | apply Kd.S_drew)); exact HO145.out) hb); replace BK142 := yB_ BK142 hb; replace HB := y2_ hb; (try clear hb)))
    go_ret
    exact ⟨E1_, W2_⟩
   ·
    replace c10 := Bool.eq_false_iff.mpr c10
    subst c10
    rw [if_neg (show ¬ (false = true) by decide)] at H
    obtain rfl := Option.some.inj H
    go_enter Tryz.func19, Tryz.ntmps19
    go_wp2_with (first | ((with_reducible refine gate_dst (N := 1) rfl ?_); refine box_event ?hg (N := 1) ?hd (cs := #[.int .i64 a0_0, .slice A0_1 l0_1.length c0_1]) (t := 44) ?hr ?_; (case hd | hg => rfl); (case hr => exact S1_); intro gb142 hg w19 hbox hb; have BK142 := Aside0.mk (hbox); have GW142 := Aside0.mk ((Z1_ : w.heap.size ≤ gb142)); have GE142 := Aside0.mk ((Z1_ : w.heap.size ≤ gb142)); replace HB := y1_ hb; clear hb hbox hg; obtain ⟨z20_0, z20_1, y20_0, y20_1⟩ := cz2_ BK142.out) | (go_at_call 22; (with_reducible refine (plan_Table_Config.calls k a0_0 _ _ l0_1 t143 _ ?side1 ?side2 A8.out).mono ?_); (case side1 => exact C1_ ((Kd.C_below HR0_1.out HB.out))); (case side2 => exact HC0_1.out); rintro e w21 ⟨v144, rfl, ho0, hb⟩; have HO145 := Aside0.mk (Kd.S_lower ho0 (below_size W2_)); replace BK142 := yB_ BK142 hb; replace HB := y2_ hb; (try clear hb); (try clear ho0); obtain ⟨Ao22, co22, eo22⟩ := Kd.S_slice HO145.out; subst eo22) | (go_at_call 15; (with_reducible refine (conf_Config_Right.calls k _ _ t143 false _ ?side1 ?side2 A9.out).mono ?_); (case side1 => exact C1_ ((Kd.S_reads' HO145.out).2.2)); (case side2 => exact (Kd.S_reads' HO145.out).2.1); rintro e w23 ⟨rfl, hb⟩; replace HO145 := Aside0.mk (Kd.S_below (by (with_reducible repeat (first | apply Kd.S_alloc | apply Kd.S_drewN | apply Kd.S_drew)); exact HO145.out) hb); replace BK142 := yB_ BK142 hb; replace HB := y2_ hb; (try clear hb)))
    go_ret
    exact ⟨E1_, W2_⟩

end Go.Proofs.YtlncpbnadlpihaaGreatDoor.PAll
