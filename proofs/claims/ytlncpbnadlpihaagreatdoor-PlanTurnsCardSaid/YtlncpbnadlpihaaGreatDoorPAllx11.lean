import Derived.Test.YtlncpbnadlpihaaGreatDoorPAllx0
import Derived.Test.YtlncpbnadlpihaaGreatDoorPAllx2
import Derived.Test.YtlncpbnadlpihaaGreatDoorPAllx4
import Derived.Test.YtlncpbnadlpihaaGreatDoorPAllx5
import Derived.Test.YtlncpbnadlpihaaGreatDoorPAllx8
import Derived.Test.YtlncpbnadlpihaaGreatDoorPAllx9
namespace Go.Proofs.YtlncpbnadlpihaaGreatDoor.PAll
open Go.RowKit Go.Proofs.YtlncpbnadlpihaaGreatDoorW.PrintWords Go.Proofs.YtlncpbnadlpihaaGreatDoorW.PrintLast Go.Proofs.YtlncpbnadlpihaaGreatDoorW.PrintMore
attribute [local go_sem] max2_int min2_int max_two min_two max_three min_three max_four min_four   -- for this text's walks alone
set_option linter.unusedVariables false
set_option linter.unusedSimpArgs false

-- NOT PRINTED: function 131 (strconv_ParseUint)

-- NOT PRINTED: function 123 (strconv_ParseInt)

-- NOT PRINTED: function 109 (strconv_Atoi_109)

-- NOT PRINTED: function 132 (stringslite_Clone)

-- NOT PRINTED: function 124 (strconv_syntaxError)

-- NOT PRINTED: function 125 (strconv_rangeError)

-- NOT PRINTED: function 133 (errors_New)

/-! ### strconv_Itoa: function 134, by hand -/
def strconv_Itoa.f (a0 : Int) : Option ByteArray := if -9223372036854775808 ≤ a0 ∧ a0 ≤ 9223372036854775807 then some ⟨(Lib.itoa a0).toArray⟩ else none
theorem below_grow_ (w : World) (k : Nat) (os : Array Obj) : Below w.heap.size w (Go.Sort.grow (w.drewN k) os) :=
 ⟨rfl, rfl, rfl, by show w.heap.size ≤ (w.heap ++ os).size; rw [Array.size_append]; omega, fun j hj => Go.Sort.heap_grow_old (w.drewN k) os hj⟩
theorem strconv_Itoa.calls (a0 : Int) (r : ByteArray) (w : World) (hrW : WF w) (h : strconv_Itoa.f a0 = some r) :
  Calls Tryz.prog 134 #[.int .i64 a0] w fun e w' => e = .returned (.string r) ∧ Below w.heap.size w w' := by
 unfold strconv_Itoa.f at h
 split at h
 case isTrue hb =>
  obtain rfl := Option.some.inj h
  refine (Tryz.strconv_Itoa a0 hb.1 hb.2 w hrW.tab).mono ?_
  rintro e w' ⟨rfl, k, os, rfl⟩
  exact ⟨rfl, below_grow_ w k os⟩
 case isFalse => cases h
theorem Itoa_nat (n : Nat) (hn : n ≤ 9223372036854775807) (w : World) (hrW : WF w) :
  Calls Tryz.prog 134 #[.int .i64 n] w fun e w' => e = .returned (.string ⟨(Lib.decDigits n).toArray⟩) ∧ Below w.heap.size w w' := by
 refine strconv_Itoa.calls (n : Int) _ w hrW ?_
 unfold strconv_Itoa.f Lib.itoa
 rw [if_pos (by omega), if_neg (by omega)]
 rfl

-- NOT PRINTED: function 126 (strconv_baseError)

-- NOT PRINTED: function 127 (strconv_bitSizeError)

-- NOT PRINTED: function 110 (strconv_toError)

-- NOT PRINTED: function 92 (strconv_Atoi_92)

/-! ### conf_reader_number: function 78, by hand -/
-- over 61 60 72
theorem RdS.below {w0 w w' : World} {g : Nat} {s : RS} (h : RdS w0 w g s) (hb : Below w.heap.size w w') : RdS w0 w' g s :=
 ⟨h.1.kept (Kept.below_ (fun _ => False) hb) (fun h => h), h.2.1, h.2.2.1.trans (hb.mono h.2.2.1.size), h.2.2.2⟩
def atoiM (t : ByteArray) : Int := match Lib.atoiAll t.data.toList with
 | .ok v => v
 | .range => Lib.atoiSat t.data.toList
 | _ => 0
def atoiE (t : ByteArray) : Bool := match Lib.atoiAll t.data.toList with
 | .ok _ => false
 | _ => true
theorem bytesWorld_below (w : World) (e : TypeId) (s : ByteArray) : Below w.heap.size w (Lib.bytesWorld w e s) := by
 unfold Lib.bytesWorld
 refine ⟨rfl, rfl, rfl, by simp [World.freeze], fun k hk => ?_⟩
 show ((w.drew.alloc _).heap.modify w.heap.size _)[k]? = _
 rw [Array.getElem?_modify, if_neg (by omega)]
 exact Below.heap_alloc w.drew _ k hk
theorem atoi_ok (t : ByteArray) (w : World) (hs : t.size ≤ 9223372036854775806) (he : atoiE t = false) :
  Calls Tryz.prog 92 #[.string t] w fun e w' => e = .returned (.tuple #[.int .i64 (atoiM t), .nilIface]) ∧ Below w.heap.size w w' := by
 unfold atoiE at he
 unfold atoiM
 split at he
 case h_1 v hv =>
  rw [hv]
  refine (Tryz.strconv_Atoi_ok t hs v hv w).mono ?_
  rintro e w' ⟨rfl, hw⟩
  refine ⟨rfl, ?_⟩
  rcases hw with rfl | ⟨q, rfl⟩
  ·
   exact Below.refl _ _
  ·
   exact bytesWorld_below _ _ _
 case h_2 => cases he
theorem atoi_err (t : ByteArray) (w : World) (hs : t.size ≤ 281474976710656) (hW : WF w) (he : atoiE t = true) :
  Calls Tryz.prog 92 #[.string t] w fun e w' => ∃ N, e = .returned (.tuple #[.int .i64 (atoiM t), .iface 178 (.pointer (some ⟨N, 0, none⟩))]) ∧ Below w.heap.size w w' := by
 obtain ⟨_, ⟨tp, p, h1⟩, tq, q, h2⟩ := hW
 unfold atoiE at he
 unfold atoiM
 cases hv : Lib.atoiAll t.data.toList with
 | ok v => rw [hv] at he; cases he
 | range =>
  refine (Tryz.strconv_Atoi_range_var t hs hv tq q w h2).mono ?_
  rintro e w' ⟨N, rfl, _, _, hb⟩
  exact ⟨N, rfl, hb⟩
 | _ =>
  refine (Tryz.strconv_Atoi_syntax_var t hs hv tp p w h1).mono ?_
  rintro e w' ⟨N, rfl, _, _, hb⟩
  exact ⟨N, rfl, hb⟩
def numBad (t : ByteArray) (ok : Bool) : Bool := !ok || atoiE t || decide (10 < t.size)
def numOff (t : ByteArray) (n lo hi : Int) : Bool := (n != atoiM t) || decide (n < lo) || decide (hi < n)
def RS.number (s : RS) (n : Int) (ok : Bool) (lo hi : Int) : RS := (if numBad s.next ok = true then s.fail 30 else if numOff s.next n lo hi = true then s.fail 11 else s).take

set_option maxHeartbeats 2000000 in
set_option maxRecDepth 100000 in
theorem num_a1 (w0 w : World) (g : Nat) (s : RS) (k : Nat) (n : Int) (ok : Bool) (lo hi : Int) (h : RdS w0 w g s) (hW : WF w) (hz : s.next.size ≤ 281474976710656) (hN : sign_Number.f k s.next = some (n, ok)) (hok : ok = false) (hE : atoiE s.next = true) :
  Calls Tryz.prog 78 #[.pointer (some ⟨g, 0, none⟩), .int .i64 lo, .int .i64 hi] w fun e w' => e = .returned (.int .i64 n) ∧ RdS w0 w' g (s.fail 30).take ∧ Kept w w' (fun k => k = g) := by
 subst hok
 have HE := Aside0.mk hE
 clear hE
 have CN := fun w' h => (rs_next w0 w' g s h)
 have HN := Aside0.mk hN
 have HW := Aside0.mk hW
 have HZ := Aside0.mk hz
 generalize s.next = t at *
 have HC := Aside0.mk CN
 clear hN hW hz CN
 go_enter Tryz.func78, Tryz.ntmps78
 go_wp2_with (go_at_call 58; refine (HC.out w h).mono ?_; rintro e _ ⟨rfl, rfl⟩)
 refine (sign_Number.calls k _ n _ _ HN.out).mono ?_
 rintro e w1 ⟨rfl, hb1⟩
 have h1 := RdS.below h hb1
 go_wp2_with (go_at_call 58; refine (HC.out w1 h1).mono ?_; rintro e _ ⟨rfl, rfl⟩)
 refine (atoi_err t w1 HZ.out (HW.out.below hb1) HE.out).mono ?_
 rintro e w2 ⟨N, rfl, hb2⟩
 have h2 := RdS.below h1 hb2
 have K2 := Kept.trans_ (Kept.below_ (fun k => k = g) hb1) (Kept.below_ (fun k => k = g) hb2)
 go_wp2_with fail
 refine (rs_fail w0 w2 g s 30 h2).mono ?_
 rintro e w3 ⟨rfl, h3, k3⟩
 go_wp2_with fail
 refine (rs_take w0 w3 g _ h3).mono ?_
 rintro e w4 ⟨rfl, h4, k4⟩
 go_wp2
 go_ret
 exact ⟨rfl, h4, Kept.trans_ K2 (Kept.trans_ k3 k4)⟩
set_option maxHeartbeats 2000000 in
set_option maxRecDepth 100000 in
theorem num_a2 (w0 w : World) (g : Nat) (s : RS) (k : Nat) (n : Int) (ok : Bool) (lo hi : Int) (h : RdS w0 w g s) (hW : WF w) (hz : s.next.size ≤ 281474976710656) (hN : sign_Number.f k s.next = some (n, ok)) (hok : ok = false) (hE : atoiE s.next = false) :
  Calls Tryz.prog 78 #[.pointer (some ⟨g, 0, none⟩), .int .i64 lo, .int .i64 hi] w fun e w' => e = .returned (.int .i64 n) ∧ RdS w0 w' g (s.fail 30).take ∧ Kept w w' (fun k => k = g) := by
 subst hok
 have HE := Aside0.mk hE
 clear hE
 have CN := fun w' h => (rs_next w0 w' g s h)
 have HN := Aside0.mk hN
 have HW := Aside0.mk hW
 have HZ := Aside0.mk hz
 generalize s.next = t at *
 have HC := Aside0.mk CN
 clear hN hW hz CN
 go_enter Tryz.func78, Tryz.ntmps78
 go_wp2_with (go_at_call 58; refine (HC.out w h).mono ?_; rintro e _ ⟨rfl, rfl⟩)
 refine (sign_Number.calls k _ n _ _ HN.out).mono ?_
 rintro e w1 ⟨rfl, hb1⟩
 have h1 := RdS.below h hb1
 go_wp2_with (go_at_call 58; refine (HC.out w1 h1).mono ?_; rintro e _ ⟨rfl, rfl⟩)
 refine (atoi_ok t w1 (by have := HZ.out; omega) HE.out).mono ?_
 rintro e w2 ⟨rfl, hb2⟩
 have h2 := RdS.below h1 hb2
 have K2 := Kept.trans_ (Kept.below_ (fun k => k = g) hb1) (Kept.below_ (fun k => k = g) hb2)
 go_wp2_with fail
 refine (rs_fail w0 w2 g s 30 h2).mono ?_
 rintro e w3 ⟨rfl, h3, k3⟩
 go_wp2_with fail
 refine (rs_take w0 w3 g _ h3).mono ?_
 rintro e w4 ⟨rfl, h4, k4⟩
 go_wp2
 go_ret
 exact ⟨rfl, h4, Kept.trans_ K2 (Kept.trans_ k3 k4)⟩
set_option maxHeartbeats 2000000 in
set_option maxRecDepth 100000 in
theorem num_b (w0 w : World) (g : Nat) (s : RS) (k : Nat) (n : Int) (ok : Bool) (lo hi : Int) (h : RdS w0 w g s) (hW : WF w) (hz : s.next.size ≤ 281474976710656) (hN : sign_Number.f k s.next = some (n, ok)) (hok : ok = true) (hE : atoiE s.next = true) :
  Calls Tryz.prog 78 #[.pointer (some ⟨g, 0, none⟩), .int .i64 lo, .int .i64 hi] w fun e w' => e = .returned (.int .i64 n) ∧ RdS w0 w' g (s.fail 30).take ∧ Kept w w' (fun k => k = g) := by
 subst hok
 have HE := Aside0.mk hE
 clear hE
 have CN := fun w' h => (rs_next w0 w' g s h)
 have HN := Aside0.mk hN
 have HW := Aside0.mk hW
 have HZ := Aside0.mk hz
 generalize s.next = t at *
 have HC := Aside0.mk CN
 clear hN hW hz CN
 go_enter Tryz.func78, Tryz.ntmps78
 go_wp2_with (go_at_call 58; refine (HC.out w h).mono ?_; rintro e _ ⟨rfl, rfl⟩)
 refine (sign_Number.calls k _ n _ _ HN.out).mono ?_
 rintro e w1 ⟨rfl, hb1⟩
 have h1 := RdS.below h hb1
 go_wp2_with (go_at_call 58; refine (HC.out w1 h1).mono ?_; rintro e _ ⟨rfl, rfl⟩)
 refine (atoi_err t w1 HZ.out (HW.out.below hb1) HE.out).mono ?_
 rintro e w2 ⟨N, rfl, hb2⟩
 have h2 := RdS.below h1 hb2
 have K2 := Kept.trans_ (Kept.below_ (fun k => k = g) hb1) (Kept.below_ (fun k => k = g) hb2)
 go_wp2_with fail
 refine (rs_fail w0 w2 g s 30 h2).mono ?_
 rintro e w3 ⟨rfl, h3, k3⟩
 go_wp2_with fail
 refine (rs_take w0 w3 g _ h3).mono ?_
 rintro e w4 ⟨rfl, h4, k4⟩
 go_wp2
 go_ret
 exact ⟨rfl, h4, Kept.trans_ K2 (Kept.trans_ k3 k4)⟩
set_option maxHeartbeats 2000000 in
set_option maxRecDepth 100000 in
theorem num_c (w0 w : World) (g : Nat) (s : RS) (k : Nat) (n : Int) (ok : Bool) (lo hi : Int) (h : RdS w0 w g s) (hW : WF w) (hz : s.next.size ≤ 281474976710656) (hN : sign_Number.f k s.next = some (n, ok)) (hok : ok = true) (hE : atoiE s.next = false) (hs : 10 < s.next.size) :
  Calls Tryz.prog 78 #[.pointer (some ⟨g, 0, none⟩), .int .i64 lo, .int .i64 hi] w fun e w' => e = .returned (.int .i64 n) ∧ RdS w0 w' g (s.fail 30).take ∧ Kept w w' (fun k => k = g) := by
 subst hok
 have HE := Aside0.mk hE
 have q1 : decide (10 < s.next.size) = true := decide_eq_true hs
 have q2 : decide ((10 : Int) < (s.next.size : Int)) = true := decide_eq_true (by omega)
 clear hE hs
 have CN := fun w' h => (rs_next w0 w' g s h)
 have HN := Aside0.mk hN
 have HW := Aside0.mk hW
 have HZ := Aside0.mk hz
 generalize s.next = t at *
 have HC := Aside0.mk CN
 clear hN hW hz CN
 go_enter Tryz.func78, Tryz.ntmps78
 go_wp2_with (go_at_call 58; refine (HC.out w h).mono ?_; rintro e _ ⟨rfl, rfl⟩)
 refine (sign_Number.calls k _ n _ _ HN.out).mono ?_
 rintro e w1 ⟨rfl, hb1⟩
 have h1 := RdS.below h hb1
 go_wp2_with (go_at_call 58; refine (HC.out w1 h1).mono ?_; rintro e _ ⟨rfl, rfl⟩)
 refine (atoi_ok t w1 (by have := HZ.out; omega) HE.out).mono ?_
 rintro e w2 ⟨rfl, hb2⟩
 have h2 := RdS.below h1 hb2
 have K2 := Kept.trans_ (Kept.below_ (fun k => k = g) hb1) (Kept.below_ (fun k => k = g) hb2)
 go_wp2_with (go_at_call 58; refine (HC.out w2 h2).mono ?_; rintro e _ ⟨rfl, rfl⟩)
 refine (rs_fail w0 w2 g s 30 h2).mono ?_
 rintro e w3 ⟨rfl, h3, k3⟩
 go_wp2_with fail
 refine (rs_take w0 w3 g _ h3).mono ?_
 rintro e w4 ⟨rfl, h4, k4⟩
 go_wp2
 go_ret
 exact ⟨rfl, h4, Kept.trans_ K2 (Kept.trans_ k3 k4)⟩
set_option maxHeartbeats 2000000 in
set_option maxRecDepth 100000 in
theorem num_d1 (w0 w : World) (g : Nat) (s : RS) (k : Nat) (n : Int) (ok : Bool) (lo hi : Int) (h : RdS w0 w g s) (hW : WF w) (hz : s.next.size ≤ 281474976710656) (hN : sign_Number.f k s.next = some (n, ok)) (hok : ok = true) (hE : atoiE s.next = false) (hs : ¬ 10 < s.next.size) (hm : n ≠ atoiM s.next) :
  Calls Tryz.prog 78 #[.pointer (some ⟨g, 0, none⟩), .int .i64 lo, .int .i64 hi] w fun e w' => e = .returned (.int .i64 n) ∧ RdS w0 w' g (s.fail 11).take ∧ Kept w w' (fun k => k = g) := by
 subst hok
 have HE := Aside0.mk hE
 have q1 : decide (10 < s.next.size) = false := decide_eq_false hs
 have q2 : decide ((10 : Int) < (s.next.size : Int)) = false := decide_eq_false (by omega)
 have q3 : (n == atoiM s.next) = false := beq_eq_false_iff_ne.mpr hm
 have q4 : (n != atoiM s.next) = true := bne_iff_ne.mpr hm
 clear hE hs hm
 have CN := fun w' h => (rs_next w0 w' g s h)
 have HN := Aside0.mk hN
 have HW := Aside0.mk hW
 have HZ := Aside0.mk hz
 generalize s.next = t at *
 have HC := Aside0.mk CN
 clear hN hW hz CN
 go_enter Tryz.func78, Tryz.ntmps78
 go_wp2_with (go_at_call 58; refine (HC.out w h).mono ?_; rintro e _ ⟨rfl, rfl⟩)
 refine (sign_Number.calls k _ n _ _ HN.out).mono ?_
 rintro e w1 ⟨rfl, hb1⟩
 have h1 := RdS.below h hb1
 go_wp2_with (go_at_call 58; refine (HC.out w1 h1).mono ?_; rintro e _ ⟨rfl, rfl⟩)
 refine (atoi_ok t w1 (by have := HZ.out; omega) HE.out).mono ?_
 rintro e w2 ⟨rfl, hb2⟩
 have h2 := RdS.below h1 hb2
 have K2 := Kept.trans_ (Kept.below_ (fun k => k = g) hb1) (Kept.below_ (fun k => k = g) hb2)
 go_wp2_with (go_at_call 58; refine (HC.out w2 h2).mono ?_; rintro e _ ⟨rfl, rfl⟩)
 refine (rs_fail w0 w2 g s 11 h2).mono ?_
 rintro e w3 ⟨rfl, h3, k3⟩
 go_wp2_with fail
 refine (rs_take w0 w3 g _ h3).mono ?_
 rintro e w4 ⟨rfl, h4, k4⟩
 go_wp2
 go_ret
 exact ⟨rfl, h4, Kept.trans_ K2 (Kept.trans_ k3 k4)⟩
set_option maxHeartbeats 2000000 in
set_option maxRecDepth 100000 in
theorem num_d2 (w0 w : World) (g : Nat) (s : RS) (k : Nat) (n : Int) (ok : Bool) (lo hi : Int) (h : RdS w0 w g s) (hW : WF w) (hz : s.next.size ≤ 281474976710656) (hN : sign_Number.f k s.next = some (n, ok)) (hok : ok = true) (hE : atoiE s.next = false) (hs : ¬ 10 < s.next.size) (hm : n = atoiM s.next) (hl : n < lo) :
  Calls Tryz.prog 78 #[.pointer (some ⟨g, 0, none⟩), .int .i64 lo, .int .i64 hi] w fun e w' => e = .returned (.int .i64 n) ∧ RdS w0 w' g (s.fail 11).take ∧ Kept w w' (fun k => k = g) := by
 subst hok
 have HE := Aside0.mk hE
 have q1 : decide (10 < s.next.size) = false := decide_eq_false hs
 have q2 : decide ((10 : Int) < (s.next.size : Int)) = false := decide_eq_false (by omega)
 have q3 : (n == atoiM s.next) = true := beq_iff_eq.mpr hm
 have q4 : (n != atoiM s.next) = false := bne_eq_false_iff_eq.mpr hm
 have q5 : decide (n < lo) = true := decide_eq_true hl
 clear hE hs hm hl
 have CN := fun w' h => (rs_next w0 w' g s h)
 have HN := Aside0.mk hN
 have HW := Aside0.mk hW
 have HZ := Aside0.mk hz
 generalize s.next = t at *
 have HC := Aside0.mk CN
 clear hN hW hz CN
 go_enter Tryz.func78, Tryz.ntmps78
 go_wp2_with (go_at_call 58; refine (HC.out w h).mono ?_; rintro e _ ⟨rfl, rfl⟩)
 refine (sign_Number.calls k _ n _ _ HN.out).mono ?_
 rintro e w1 ⟨rfl, hb1⟩
 have h1 := RdS.below h hb1
 go_wp2_with (go_at_call 58; refine (HC.out w1 h1).mono ?_; rintro e _ ⟨rfl, rfl⟩)
 refine (atoi_ok t w1 (by have := HZ.out; omega) HE.out).mono ?_
 rintro e w2 ⟨rfl, hb2⟩
 have h2 := RdS.below h1 hb2
 have K2 := Kept.trans_ (Kept.below_ (fun k => k = g) hb1) (Kept.below_ (fun k => k = g) hb2)
 go_wp2_with (go_at_call 58; refine (HC.out w2 h2).mono ?_; rintro e _ ⟨rfl, rfl⟩)
 refine (rs_fail w0 w2 g s 11 h2).mono ?_
 rintro e w3 ⟨rfl, h3, k3⟩
 go_wp2_with fail
 refine (rs_take w0 w3 g _ h3).mono ?_
 rintro e w4 ⟨rfl, h4, k4⟩
 go_wp2
 go_ret
 exact ⟨rfl, h4, Kept.trans_ K2 (Kept.trans_ k3 k4)⟩
set_option maxHeartbeats 2000000 in
set_option maxRecDepth 100000 in
theorem num_d3 (w0 w : World) (g : Nat) (s : RS) (k : Nat) (n : Int) (ok : Bool) (lo hi : Int) (h : RdS w0 w g s) (hW : WF w) (hz : s.next.size ≤ 281474976710656) (hN : sign_Number.f k s.next = some (n, ok)) (hok : ok = true) (hE : atoiE s.next = false) (hs : ¬ 10 < s.next.size) (hm : n = atoiM s.next) (hl : ¬ n < lo) (hh : hi < n) :
  Calls Tryz.prog 78 #[.pointer (some ⟨g, 0, none⟩), .int .i64 lo, .int .i64 hi] w fun e w' => e = .returned (.int .i64 n) ∧ RdS w0 w' g (s.fail 11).take ∧ Kept w w' (fun k => k = g) := by
 subst hok
 have HE := Aside0.mk hE
 have q1 : decide (10 < s.next.size) = false := decide_eq_false hs
 have q2 : decide ((10 : Int) < (s.next.size : Int)) = false := decide_eq_false (by omega)
 have q3 : (n == atoiM s.next) = true := beq_iff_eq.mpr hm
 have q4 : (n != atoiM s.next) = false := bne_eq_false_iff_eq.mpr hm
 have q5 : decide (n < lo) = false := decide_eq_false hl
 have q6 : decide (hi < n) = true := decide_eq_true hh
 clear hE hs hm hl hh
 have CN := fun w' h => (rs_next w0 w' g s h)
 have HN := Aside0.mk hN
 have HW := Aside0.mk hW
 have HZ := Aside0.mk hz
 generalize s.next = t at *
 have HC := Aside0.mk CN
 clear hN hW hz CN
 go_enter Tryz.func78, Tryz.ntmps78
 go_wp2_with (go_at_call 58; refine (HC.out w h).mono ?_; rintro e _ ⟨rfl, rfl⟩)
 refine (sign_Number.calls k _ n _ _ HN.out).mono ?_
 rintro e w1 ⟨rfl, hb1⟩
 have h1 := RdS.below h hb1
 go_wp2_with (go_at_call 58; refine (HC.out w1 h1).mono ?_; rintro e _ ⟨rfl, rfl⟩)
 refine (atoi_ok t w1 (by have := HZ.out; omega) HE.out).mono ?_
 rintro e w2 ⟨rfl, hb2⟩
 have h2 := RdS.below h1 hb2
 have K2 := Kept.trans_ (Kept.below_ (fun k => k = g) hb1) (Kept.below_ (fun k => k = g) hb2)
 go_wp2_with (go_at_call 58; refine (HC.out w2 h2).mono ?_; rintro e _ ⟨rfl, rfl⟩)
 refine (rs_fail w0 w2 g s 11 h2).mono ?_
 rintro e w3 ⟨rfl, h3, k3⟩
 go_wp2_with fail
 refine (rs_take w0 w3 g _ h3).mono ?_
 rintro e w4 ⟨rfl, h4, k4⟩
 go_wp2
 go_ret
 exact ⟨rfl, h4, Kept.trans_ K2 (Kept.trans_ k3 k4)⟩
set_option maxHeartbeats 2000000 in
set_option maxRecDepth 100000 in
theorem num_d4 (w0 w : World) (g : Nat) (s : RS) (k : Nat) (n : Int) (ok : Bool) (lo hi : Int) (h : RdS w0 w g s) (hW : WF w) (hz : s.next.size ≤ 281474976710656) (hN : sign_Number.f k s.next = some (n, ok)) (hok : ok = true) (hE : atoiE s.next = false) (hs : ¬ 10 < s.next.size) (hm : n = atoiM s.next) (hl : ¬ n < lo) (hh : ¬ hi < n) :
  Calls Tryz.prog 78 #[.pointer (some ⟨g, 0, none⟩), .int .i64 lo, .int .i64 hi] w fun e w' => e = .returned (.int .i64 n) ∧ RdS w0 w' g s.take ∧ Kept w w' (fun k => k = g) := by
 subst hok
 have HE := Aside0.mk hE
 have q1 : decide (10 < s.next.size) = false := decide_eq_false hs
 have q2 : decide ((10 : Int) < (s.next.size : Int)) = false := decide_eq_false (by omega)
 have q3 : (n == atoiM s.next) = true := beq_iff_eq.mpr hm
 have q4 : (n != atoiM s.next) = false := bne_eq_false_iff_eq.mpr hm
 have q5 : decide (n < lo) = false := decide_eq_false hl
 have q6 : decide (hi < n) = false := decide_eq_false hh
 clear hE hs hm hl hh
 have CN := fun w' h => (rs_next w0 w' g s h)
 have HN := Aside0.mk hN
 have HW := Aside0.mk hW
 have HZ := Aside0.mk hz
 generalize s.next = t at *
 have HC := Aside0.mk CN
 clear hN hW hz CN
 go_enter Tryz.func78, Tryz.ntmps78
 go_wp2_with (go_at_call 58; refine (HC.out w h).mono ?_; rintro e _ ⟨rfl, rfl⟩)
 refine (sign_Number.calls k _ n _ _ HN.out).mono ?_
 rintro e w1 ⟨rfl, hb1⟩
 have h1 := RdS.below h hb1
 go_wp2_with (go_at_call 58; refine (HC.out w1 h1).mono ?_; rintro e _ ⟨rfl, rfl⟩)
 refine (atoi_ok t w1 (by have := HZ.out; omega) HE.out).mono ?_
 rintro e w2 ⟨rfl, hb2⟩
 have h2 := RdS.below h1 hb2
 have K2 := Kept.trans_ (Kept.below_ (fun k => k = g) hb1) (Kept.below_ (fun k => k = g) hb2)
 go_wp2_with (go_at_call 58; refine (HC.out w2 h2).mono ?_; rintro e _ ⟨rfl, rfl⟩)
 refine (rs_take w0 w2 g _ h2).mono ?_
 rintro e w4 ⟨rfl, h4, k4⟩
 go_wp2
 go_ret
 exact ⟨rfl, h4, Kept.trans_ K2 k4⟩
theorem rs_number (w0 w : World) (g : Nat) (s : RS) (k : Nat) (n : Int) (ok : Bool) (lo hi : Int) (h : RdS w0 w g s) (hW : WF w) (hz : s.next.size ≤ 281474976710656) (hN : sign_Number.f k s.next = some (n, ok)) :
  Calls Tryz.prog 78 #[.pointer (some ⟨g, 0, none⟩), .int .i64 lo, .int .i64 hi] w fun e w' => e = .returned (.int .i64 n) ∧ RdS w0 w' g (s.number n ok lo hi) ∧ Kept w w' (fun k => k = g) := by
 unfold RS.number numBad numOff
 cases hok : ok with
 | false =>
  rw [if_pos (by simp)]
  cases hE : atoiE s.next with
  | true => exact num_a1 w0 w g s k n ok lo hi h hW hz hN hok hE
  | false => exact num_a2 w0 w g s k n ok lo hi h hW hz hN hok hE
 | true =>
  cases hE : atoiE s.next with
  | true =>
   rw [if_pos (by simp)]
   exact num_b w0 w g s k n ok lo hi h hW hz hN hok hE
  | false =>
   by_cases hs : 10 < s.next.size
   ·
    rw [if_pos (by simp [hs])]
    exact num_c w0 w g s k n ok lo hi h hW hz hN hok hE hs
   ·
    rw [if_neg (by simp [hs])]
    by_cases hm : n = atoiM s.next
    ·
     by_cases hl : n < lo
     ·
      rw [if_pos (by simp [hl])]
      exact num_d2 w0 w g s k n ok lo hi h hW hz hN hok hE hs hm hl
     ·
      by_cases hh : hi < n
      ·
       rw [if_pos (by simp [hh])]
       exact num_d3 w0 w g s k n ok lo hi h hW hz hN hok hE hs hm hl hh
      ·
       rw [if_neg (by simp [← hm, hl, hh])]
       exact num_d4 w0 w g s k n ok lo hi h hW hz hN hok hE hs hm hl hh
    ·
     rw [if_pos (by simp [hm])]
     exact num_d1 w0 w g s k n ok lo hi h hW hz hN hok hE hs hm

/-! ### conf_reader_key: function 79, by hand -/
-- over 61 60 78 54 51
theorem RdS.kept {w0 w w' : World} {g : Nat} {s : RS} {S : Nat → Prop} (h : RdS w0 w g s) (hk : Kept w w' S) (hg : ¬ S g) (hB : Below w0.heap.size w0 w') : RdS w0 w' g s :=
 ⟨h.1.kept hk hg, h.2.1, hB, h.2.2.2⟩
theorem RdS.lt {w0 w : World} {g : Nat} {s : RS} (h : RdS w0 w g s) : g < w.heap.size := by
 obtain ⟨wb, off, n, cap, _, hh, _⟩ := h.1
 exact blk_lt hh
theorem RdS.code_cell {w0 w : World} {g : Nat} {s : RS} (h : RdS w0 w g s) : w.cell? ⟨g, 1, none⟩ = some (.int .i64 s.code) := by
 obtain ⟨wb, off, n, cap, _, hh, _⟩ := h.1
 exact (blk_cell hh 1).trans rfl
def pathB : ByteArray := ⟨#[112, 97, 116, 104]⟩
def queryB : ByteArray := ⟨#[113, 117, 101, 114, 121]⟩
def headerB : ByteArray := ⟨#[104, 101, 97, 100, 101, 114]⟩
theorem queryB_list : queryB.toList = [113, 117, 101, 114, 121] := by rw [ByteArray.toList_eq]; rfl
/-- A site in memory: block sb. -/
def SiteAt (w : World) (sb : Nat) (host : ByteArray) (o mi ma : Int) (q kp : Bool) (v : Value) : Prop :=
 w.heap[sb]? = some (.cells #[.string host, .int .i64 o, .int .i64 mi, .int .i64 ma, .bool q, .bool kp, v] 57 (0, 0))
def keyL : Nat → RS → Bool → List ByteArray → Option (RS × Bool × List ByteArray)
 | 0, _, _, _ => none
 | k + 1, s, q, hs => if s.code = 0 then (if s.next.toList = ([59] : List UInt8) then some (s, q, hs) else
   if s.next.toList = queryB.toList ∧ q = false then keyL k s.take true hs else
   if (s.must headerB).code = 0 then ((conf_head.f k (s.must headerB).next).bind fun b => if b = true then ((conf_rising.f k (hs ++ [(s.must headerB).next])).bind fun c => if c = true then (if hs.length = 4 then keyL k ((s.must headerB).fail 32).take q hs else keyL k (s.must headerB).take q (hs ++ [(s.must headerB).next])) else keyL k ((s.must headerB).fail 30).take q hs) else keyL k ((s.must headerB).fail 30).take q hs)
   else keyL k (s.must headerB).take q hs) else some (s, q, hs)
def keyF (k : Nat) (s : RS) : Option (RS × Bool × List ByteArray) := keyL k (s.must pathB) false []
theorem keyL_mono : ∀ k s q hs, LeO (keyL k s q hs) (keyL (k + 1) s q hs)
 | 0, _, _, _ => fun r h => by simp [keyL] at h
 | k + 1, s, q, hs => by
  have ih := keyL_mono k
  unfold keyL
  repeat' (with_reducible first | exact ih _ _ _ | exact conf_head.mono _ _ | exact conf_rising.mono _ _ | exact lR_ | refine LeO.ite ?_ ?_ | refine LeO.bind ?_ (fun _ => ?_))
theorem clone_own (w : World) (base : Nat) (ok : Nat → Prop) (v : Value) (hs : List ByteArray) (hR : Kd.R Kd.string 9 w base ok v hs) (hl : hs.length ≤ 1000) :
  Calls Tryz.prog 40 #[v] w fun e w' => ∃ v', e = .returned v' ∧ Kd.R Kd.string 9 w' w.heap.size (fun _ => True) v' hs ∧ Below w.heap.size w w' := by
 obtain ⟨A, c, rfl, hle, hC⟩ := Kd.R_reads hR
 have fin : ∀ v' w', w'.ownsRow w.heap.size 9 1 v' hs.length (hs.map Value.string) → Kd.R Kd.string 9 w' w.heap.size (fun _ => True) v' hs := fun v' w' ho => Kd.R_of_own (enc := Value.string) (h1 := fun _ => rfl) ho (fun _ _ => trivial)
 by_cases h0 : hs.length = 0
 ·
  obtain rfl : hs = [] := List.eq_nil_of_length_eq_zero h0
  cases A with
  | none =>
   refine (Tryz.slices_Clone_string_nil 0 c w).mono ?_
   rintro e w' ⟨rfl, rfl⟩
   exact ⟨_, rfl, Kd.R_nil _ _ _ _ _, Below.refl _ _⟩
  | some a =>
   refine (Tryz.slices_Clone_string_zero a c w).mono ?_
   rintro e w' ⟨v', rfl, ho, _, hb⟩
   exact ⟨v', rfl, fin v' w' ho, hb⟩
 ·
  obtain ⟨ad, cs, rfl, _⟩ := Kd.C_get hC ByteArray.empty 0 (by omega) (by omega)
  obtain ⟨g, cap, cur, hv⟩ : ∃ g cap, ∃ cur : Array Value, (Value.slice (some ad) hs.length c) = .slice (some ⟨g, 0, none⟩) hs.length cap := by
   rcases (Kd.own_of_R hR).2 with ⟨hnil, _⟩ | ⟨g, cap, cur, hv, _⟩
   ·
    cases hnil
   ·
    exact ⟨g, cap, cur, hv⟩
  obtain ⟨rfl, rfl⟩ : ad = ⟨g, 0, none⟩ ∧ c = cap := by simpa using hv
  refine (Tryz.slices_Clone_string g 0 hs.length c hs w (Nat.le_refl _) (by omega) (fun j hj => ?_)).mono ?_
  ·
   have := Kd.foot_string hC (j : Int) (by omega) (by omega)
   rw [add_plain] at this
   simpa [rdOf] using this
  ·
   rintro e w' ⟨v', rfl, ho, _, hb⟩
   rw [List.take_length] at ho
   exact ⟨v', rfl, fin v' w' ho, hb⟩
theorem R_kept {α : Type} {d : Kd α} {e base : Nat} {w w' : World} {ok S : Nat → Prop} {v : Value} {xs : List α} (h : Kd.R d e w base ok v xs) (hk : Kept w w' S) (hS : ∀ k, ok k → ¬ S k) : Kd.R d e w' base ok v xs := Kd.R_step h (fun k ho hlt => hk.2 k hlt (hS k ho))
theorem SiteAt.kept {w w' : World} {sb : Nat} {host : ByteArray} {o mi ma : Int} {q kp : Bool} {v : Value} {S : Nat → Prop} (h : SiteAt w sb host o mi ma q kp v) (hk : Kept w w' S) (hS : ¬ S sb) : SiteAt w' sb host o mi ma q kp v := blk_kept h hk hS
/-- What a round of key stands on. -/
structure KeyI (w0 w : World) (g sb : Nat) (host : ByteArray) (o mi ma : Int) (kp : Bool) (w' : World) (s : RS) (q : Bool) (hs : List ByteArray) (v : Value) : Prop where
 rd : RdS w0 w' g s
 site : SiteAt w' sb host o mi ma q kp v
 row : Kd.R Kd.string 9 w' w.heap.size (fun k => k ≠ g ∧ k ≠ sb) v hs
 kept : Kept w w' (fun i => i = g ∨ i = sb)
 len : hs.length ≤ 4
theorem KeyI.gstep {w0 w : World} {g sb : Nat} {host : ByteArray} {o mi ma : Int} {kp : Bool} {w' w2 : World} {s s2 : RS} {q : Bool} {hs : List ByteArray} {v : Value} (h : KeyI w0 w g sb host o mi ma kp w' s q hs v) (hgs : g ≠ sb) (h2 : RdS w0 w2 g s2) (hk : Kept w' w2 (fun k => k = g)) : KeyI w0 w g sb host o mi ma kp w2 s2 q hs v :=
 ⟨h2, h.site.kept hk (fun e => hgs e.symm), R_kept h.row hk (fun k ho => ho.1), Kept.trans_ h.kept (Kept.mono_ hk (fun k e => .inl e)), h.len⟩
theorem KeyI.bstep {w0 w : World} {g sb : Nat} {host : ByteArray} {o mi ma : Int} {kp : Bool} {w' w2 : World} {s : RS} {q : Bool} {hs : List ByteArray} {v : Value} (h : KeyI w0 w g sb host o mi ma kp w' s q hs v) (hgs : g ≠ sb) (hb : Below w'.heap.size w' w2) : KeyI w0 w g sb host o mi ma kp w2 s q hs v :=
 h.gstep hgs (h.rd.below hb) (Kept.below_ _ hb)

set_option maxHeartbeats 8000000 in
set_option maxRecDepth 100000 in
theorem rs_key (k : Nat) (w0 w : World) (g sb : Nat) (s : RS) (host : ByteArray) (o mi ma : Int) (q0 kp : Bool) (v0 : Value) (r : RS × Bool × List ByteArray) (h : RdS w0 w g s) (hs : SiteAt w sb host o mi ma q0 kp v0) (hgs : g ≠ sb) (hsb : w0.heap.size ≤ sb) (hf : keyF k s = some r) :
  Calls Tryz.prog 79 #[.pointer (some ⟨g, 0, none⟩), .pointer (some ⟨sb, 0, none⟩)] w fun e w' => e = .returned (.tuple #[]) ∧ ∃ v, KeyI w0 w g sb host o mi ma kp w' r.1 r.2.1 r.2.2 v := by
 have HF := Aside0.mk hf
 have HG := Aside0.mk hgs
 have HSL := Aside0.mk hsb
 have HS0 := Aside0.mk hs
 have f4 := blk_frozen hs 4
 have f6 := blk_frozen hs 6
 have i4 := (blk_cell hs 4).trans rfl
 have i6 := (blk_cell hs 6).trans rfl
 have H0 := Aside0.mk h
 have HWL := Aside0.mk h.2.2.1.size
 have HGL := Aside0.mk h.lt
 have HSBL := Aside0.mk (blk_lt hs)
 clear hf hs hgs hsb h
 go_enter Tryz.func79, Tryz.ntmps79
 go_wp2_with fail
 have hsite1 : SiteAt ((w.setCell ⟨sb, 4, none⟩ (.bool false)).setCell ⟨sb, 6, none⟩ (.slice none 0 0)) sb host o mi ma false kp (.slice none 0 0) := blk_put (blk_put HS0.out 4 _ rfl) 6 _ rfl
 have hk1 : Kept w ((w.setCell ⟨sb, 4, none⟩ (.bool false)).setCell ⟨sb, 6, none⟩ (.slice none 0 0)) (fun i => i = sb) := Kept.trans_ (Kept.set_ w sb 4 _) (Kept.set_ _ sb 6 _)
 have hb1 : Below w0.heap.size w0 ((w.setCell ⟨sb, 4, none⟩ (.bool false)).setCell ⟨sb, 6, none⟩ (.slice none 0 0)) := (H0.out.2.2.1.setCell HSL.out _).setCell HSL.out _
 generalize (w.setCell ⟨sb, 4, none⟩ (.bool false)).setCell ⟨sb, 6, none⟩ (.slice none 0 0) = w1 at *
 have K1 : KeyI w0 w g sb host o mi ma kp w1 s false [] (.slice none 0 0) := ⟨H0.out.kept hk1 HG.out hb1, hsite1, Kd.R_nil _ _ _ _ _, Kept.mono_ hk1 (fun _ e => .inr e), by simp⟩
 clear i4 i6 f4 f6 HS0 H0 hsite1 hk1 hb1
 refine (rs_must w0 w1 g s pathB K1.rd).mono ?_
 rintro e w2 ⟨rfl, h2, k2⟩
 have K2 := Aside0.mk (K1.gstep HG.out h2 k2)
 clear K1 h2 k2
 have HL0 := Aside0.mk (show keyL k (s.must pathB) false [] = some r from HF.out)
 clear HF
 go_wp2_with fail
 go_loopg [4] k (fun kq v4 w' => ∃ (s' : RS) (q : Bool) (hs : List ByteArray) (v : Value), Aside0 (keyL kq s' q hs = some r) ∧ Aside0 (kq ≤ k) ∧ Aside0 (KeyI w0 w g sb host o mi ma kp w' s' q hs v))
 case atStart => exact ⟨_, _, _, _, HL0, ⟨Nat.le_refl _⟩, K2⟩
 case round =>
  clear HL0 K2
  obtain ⟨s', q, hs, v, HL, HQ, HK⟩ := hrel
  cases gk with
  | zero => exact absurd HL.out (by simp [keyL])
  | succ k1 =>
   have H := HL.out
   clear HL
   simp only [keyL] at H
   have g1 := HK.out.rd.code_cell
   by_cases c1 : s'.code = 0
   ·
    rw [if_pos c1] at H
    have q1 : (s'.code == 0) = true := beq_iff_eq.mpr c1
    clear c1
    by_cases c2 : s'.next.toList = ([59] : List UInt8)
    ·
     rw [if_pos c2] at H
     obtain rfl := Option.some.inj H
     have q2 : (s'.next.toList == ([59] : List UInt8)) = true := beq_iff_eq.mpr c2
     have q3 : (s'.next.toList != ([59] : List UInt8)) = false := bne_eq_false_iff_eq.mpr c2
     clear H c2
     go_wp2_with (go_at_call 58; refine (rs_next w0 wr g s' HK.out.rd).mono ?_; rintro e _ ⟨rfl, rfl⟩)
     go_end0
     exact ⟨rfl, _, HK.out⟩
    ·
     rw [if_neg c2] at H
     have q2 : (s'.next.toList == ([59] : List UInt8)) = false := beq_eq_false_iff_ne.mpr c2
     have q3 : (s'.next.toList != ([59] : List UInt8)) = true := bne_iff_ne.mpr c2
     clear c2
     have i4 := (blk_cell HK.out.site 4).trans rfl
     have f4 := blk_frozen HK.out.site 4
     by_cases c3 : s'.next.toList = queryB.toList ∧ q = false
     ·
      rw [if_pos c3] at H
      obtain ⟨c3, rfl⟩ := c3
      rw [queryB_list] at c3
      have q4 : (s'.next.toList == ([113, 117, 101, 114, 121] : List UInt8)) = true := beq_iff_eq.mpr c3
      have HH := Aside0.mk H
      clear H c3
      go_wp2_with (go_at_call 58; refine (rs_next w0 wr g s' HK.out.rd).mono ?_; rintro e _ ⟨rfl, rfl⟩)
      have hb2 : Below w0.heap.size w0 (wr.setCell ⟨sb, 4, none⟩ (.bool true)) := HK.out.rd.2.2.1.setCell HSL.out _
      have hk2 := Kept.set_ wr sb 4 (.bool true)
      have hs2 : SiteAt (wr.setCell ⟨sb, 4, none⟩ (.bool true)) sb host o mi ma true kp v := blk_put HK.out.site 4 _ rfl
      generalize wr.setCell ⟨sb, 4, none⟩ (.bool true) = w3 at *
      have K3 : KeyI w0 w g sb host o mi ma kp w3 s' true hs v := ⟨HK.out.rd.kept hk2 HG.out hb2, hs2, R_kept HK.out.row hk2 (fun k ho => ho.2), Kept.trans_ HK.out.kept (Kept.mono_ hk2 (fun _ e => .inr e)), HK.out.len⟩
      clear hb2 hk2 hs2
      refine (rs_take w0 w3 g s' K3.rd).mono ?_
      rintro e w4 ⟨rfl, h4, k4⟩
      have K4 := Aside0.mk (K3.gstep HG.out h4 k4)
      clear K3 h4 k4
      go_wp2
      go_roundg k1
      case measure => have h_ := HQ.out; omega
      case rel => exact ⟨_, _, _, _, HH, ⟨by have h_ := HQ.out; omega⟩, K4⟩
     ·
      rw [if_neg c3] at H
      have HH := Aside0.mk H
      clear H
      by_cases c4 : s'.next.toList = queryB.toList
      ·
       obtain rfl : q = true := by cases q with | true => rfl | false => exact absurd ⟨c4, rfl⟩ c3
       rw [queryB_list] at c4
       have q4 : (s'.next.toList == ([113, 117, 101, 114, 121] : List UInt8)) = true := beq_iff_eq.mpr c4
       clear c3 c4
       go_wp2_with (go_at_call 58; refine (rs_next w0 wr g s' HK.out.rd).mono ?_; rintro e _ ⟨rfl, rfl⟩)
       refine (rs_must w0 wr g s' headerB HK.out.rd).mono ?_
       rintro e w1 ⟨rfl, h1, k1_⟩
       have K1 := Aside0.mk (HK.out.gstep HG.out h1 k1_)
       clear h1 k1_ HK i4 f4 g1 q1 q2 q3 q4
       generalize s'.must headerB = s1 at *
       have g1 := K1.out.rd.code_cell
       have H := HH.out
       clear HH
       by_cases c5 : s1.code = 0
       ·
        rw [if_pos c5] at H
        have q1 : (s1.code == 0) = true := beq_iff_eq.mpr c5
        have q2 : (s1.code != 0) = false := bne_eq_false_iff_eq.mpr c5
        clear c5
        obtain ⟨b, A1, H⟩ := Option.bind_eq_some_iff.mp H
        have A1' := Aside0.mk A1
        clear A1
        cases b with
        | false =>
         rw [if_neg (by simp)] at H
         have HH := Aside0.mk H
         clear H
         go_wp2_with (first | (go_at_call 58; refine (rs_next w0 w1 g s1 K1.out.rd).mono ?_; rintro e _ ⟨rfl, rfl⟩) | (go_at_call 54; refine (conf_head.calls k1 _ false _ A1'.out).mono ?_; rintro e w2 ⟨rfl, hb2⟩))
         have K2 := K1.out.bstep HG.out hb2
         clear K1 hb2
         refine (rs_fail w0 w2 g s1 30 K2.rd).mono ?_
         rintro e w3 ⟨rfl, h3, k3⟩
         have K3 := K2.gstep HG.out h3 k3
         clear K2 h3 k3
         go_wp2_with fail
         refine (rs_take w0 w3 g _ K3.rd).mono ?_
         rintro e w9 ⟨rfl, h9, k9⟩
         have K9 := Aside0.mk (K3.gstep HG.out h9 k9)
         clear K3 h9 k9
         go_wp2
         go_roundg k1
         case measure => have h_ := HQ.out; omega
         case rel => exact ⟨_, _, _, _, HH, ⟨by have h_ := HQ.out; omega⟩, K9⟩
        | true =>
         rw [if_pos rfl] at H
         obtain ⟨c, A2, H⟩ := Option.bind_eq_some_iff.mp H
         have A2' := Aside0.mk A2
         clear A2
         go_wp2_with (first | (go_at_call 58; refine (rs_next w0 w1 g s1 K1.out.rd).mono ?_; rintro e _ ⟨rfl, rfl⟩) | (go_at_call 54; refine (conf_head.calls k1 _ true _ A1'.out).mono ?_; rintro e w2 ⟨rfl, hb2⟩; have K2 := K1.out.bstep HG.out hb2; have i6 := (blk_cell K2.site 6).trans rfl))
         have L2 := Aside0.mk K2.len
         refine (clone_own w2 _ _ v hs K2.row (by have h_ := L2.out; omega)).mono ?_
         rintro e w3 ⟨v3, rfl, r3, hb3⟩
         have K2' := Aside0.mk K2
         have HR3 := Aside0.mk r3
         have HB3 := Aside0.mk hb3
         clear K1 K2 hb2 i6 r3 hb3
         generalize s1.next = x at *
         obtain ⟨ys, hys⟩ : ∃ ys : List ByteArray, ys = hs ++ [x] := ⟨_, rfl⟩
         have A3' := Aside0.mk (show conf_rising.f k1 ys = some c by rw [hys]; exact A2'.out)
         have HYS := Aside0.mk hys
         clear A2' hys
         go_wp2_with ((try (refine gate_guard (by rfl) ?_; dsimp only)); at_builtin; refine Kd.R_append Kd.string (w0 := w2) w2.heap.size rfl (.tmp 69) (.tmp 71) 55 9 (.string ⟨#[]⟩) 16 rfl Tryz.underlying55 infoStr_ rfl (by decide) (by omega) v3 hs x [.string x] (fun _ => True) (fun _ => False) rfl rfl ?aP (fun _ hk => hk.elim) (fun _ _ => trivial) HR3.out HB3.out HB3.out.size (by have h_ := L2.out; omega) ?_; (case aP => exact rfl); intro v4 w4 r4 hb4 _ _; rw [← HYS.out] at r4; obtain ⟨Ar, cr, rfl, hle, hC⟩ := Kd.R_reads r4)
         refine (conf_rising.calls k1 Ar cr ys c w4 hC hle A3'.out).mono ?_
         rintro e w5 ⟨rfl, ⟨nd, rfl⟩⟩
         have K5 := K2'.out.bstep HG.out (zN_ hb4 nd)
         clear K2' r4 hC hle hb4 HR3 HB3 A3' HYS
         generalize w4.drewN nd = w5 at *
         cases c with
         | false =>
          rw [if_neg (by simp)] at H
          have HH := Aside0.mk H
          clear H
          go_wp2_with fail
          refine (rs_fail w0 w5 g s1 30 K5.rd).mono ?_
          rintro e w6 ⟨rfl, h6, k6⟩
          have K3 := K5.gstep HG.out h6 k6
          clear K5 h6 k6
          go_wp2_with fail
          refine (rs_take w0 w6 g _ K3.rd).mono ?_
          rintro e w9 ⟨rfl, h9, k9⟩
          have K9 := Aside0.mk (K3.gstep HG.out h9 k9)
          clear K3 h9 k9
          go_wp2
          go_roundg k1
          case measure => have h_ := HQ.out; omega
          case rel => exact ⟨_, _, _, _, HH, ⟨by have h_ := HQ.out; omega⟩, K9⟩
         | true =>
          rw [if_pos rfl] at H
          obtain ⟨Av, cv, rfl⟩ := Kd.R_slice K5.row
          have i6 := (blk_cell K5.site 6).trans rfl
          have f6 := blk_frozen K5.site 6
          by_cases c6 : hs.length = 4
          ·
           rw [if_pos c6] at H
           have q5 : ((hs.length : Int) == 4) = true := beq_iff_eq.mpr (by omega)
           have q6 : (hs.length == 4) = true := beq_iff_eq.mpr c6
           have HH := Aside0.mk H
           clear H c6
           go_wp2_with fail
           refine (rs_fail w0 w5 g s1 32 K5.rd).mono ?_
           rintro e w6 ⟨rfl, h6, k6⟩
           have K3 := K5.gstep HG.out h6 k6
           clear K5 h6 k6 i6 f6
           go_wp2_with fail
           refine (rs_take w0 w6 g _ K3.rd).mono ?_
           rintro e w9 ⟨rfl, h9, k9⟩
           have K9 := Aside0.mk (K3.gstep HG.out h9 k9)
           clear K3 h9 k9
           go_wp2
           go_roundg k1
           case measure => have h_ := HQ.out; omega
           case rel => exact ⟨_, _, _, _, HH, ⟨by have h_ := HQ.out; omega⟩, K9⟩
          ·
           rw [if_neg c6] at H
           have q5 : ((hs.length : Int) == 4) = false := beq_eq_false_iff_ne.mpr (by omega)
           have q6 : (hs.length == 4) = false := beq_eq_false_iff_ne.mpr c6
           have LN := (show (hs ++ [x]).length ≤ 4 from by rw [List.length_append]; have h_ := L2.out; simp only [List.length_cons, List.length_nil]; omega)
           obtain ⟨ys, hys⟩ : ∃ ys : List ByteArray, ys = hs ++ [x] := ⟨_, rfl⟩
           rw [← hys] at H LN
           have HYS := Aside0.mk hys
           have HH := Aside0.mk H
           have K5' := Aside0.mk K5
           clear H c6 K5 hys
           go_wp2_with (at_builtin; refine Kd.R_append Kd.string (w0 := w5) w.heap.size rfl (.tmp 47) (.tmp 49) 55 9 (.string ⟨#[]⟩) 16 rfl Tryz.underlying55 infoStr_ rfl (by decide) (by omega) (.slice Av hs.length cv) hs x [.string x] (fun k => k ≠ g ∧ k ≠ sb) (fun _ => False) rfl rfl ?aP (fun _ hk => hk.elim) ?aF K5'.out.row (Below.refl _ _) K5'.out.kept.1 (by have h_ := L2.out; omega) ?_; (case aP => exact rfl); (case aF => exact fun k hk => ⟨by have h1_ := HGL.out; have h2_ := K5'.out.kept.1; omega, by have h1_ := HSBL.out; have h2_ := K5'.out.kept.1; omega⟩); intro v6 w6 r6 hb6 _ _; rw [← HYS.out] at r6; obtain ⟨A6, c6, rfl⟩ := Kd.R_slice r6; have f7 := blk_frozen ((hb6.block sb HSBL.out).trans K5'.out.site) 6; have i7 := (blk_cell ((hb6.block sb HSBL.out).trans K5'.out.site) 6).trans rfl)
           have hs6 : SiteAt w6 sb host o mi ma _ kp (.slice Av hs.length cv) := (hb6.block sb HSBL.out).trans K5'.out.site
           have kk6 : Kept w w6 (fun i => i = g ∨ i = sb) := ⟨Nat.le_trans K5'.out.kept.1 hb6.size, fun i hi hS => (hb6.block i hi).trans (K5'.out.kept.2 i hi hS)⟩
           have rd6 : RdS w0 w6 g s1 := by
            obtain ⟨⟨wb, off, n_, cap, hn_, hh, hc, hr⟩, h2, h3, h4⟩ := K5'.out.rd
            exact ⟨⟨wb, off, n_, cap, hn_, (hb6.block g HGL.out).trans hh, hc, hr⟩, h2, h3.trans (hb6.mono HWL.out), h4⟩
           have hk7 := Kept.set_ w6 sb 6 (.slice A6 ys.length c6)
           have hb7 : Below w0.heap.size w0 (w6.setCell ⟨sb, 6, none⟩ (.slice A6 ys.length c6)) := rd6.2.2.1.setCell HSL.out _
           have hs7 : SiteAt (w6.setCell ⟨sb, 6, none⟩ (.slice A6 ys.length c6)) sb host o mi ma _ kp (.slice A6 ys.length c6) := blk_put hs6 6 _ rfl
           generalize w6.setCell ⟨sb, 6, none⟩ (.slice A6 ys.length c6) = w7 at *
           have K3 : KeyI w0 w g sb host o mi ma kp w7 s1 _ ys (.slice A6 ys.length c6) := ⟨rd6.kept hk7 HG.out hb7, hs7, R_kept r6 hk7 (fun k ho => ho.2), Kept.trans_ kk6 (Kept.mono_ hk7 (fun _ e => .inr e)), LN⟩
           clear K5' i6 f6 f7 i7 r6 LN HYS hb6 hs6 kk6 rd6 hk7 hb7 hs7
           refine (rs_take w0 w7 g _ K3.rd).mono ?_
           rintro e w9 ⟨rfl, h9, k9⟩
           have K9 := Aside0.mk (K3.gstep HG.out h9 k9)
           clear K3 h9 k9
           go_wp2
           go_roundg k1
           case measure => have h_ := HQ.out; omega
           case rel => exact ⟨_, _, _, _, HH, ⟨by have h_ := HQ.out; omega⟩, K9⟩
       ·
        rw [if_neg c5] at H
        have q1 : (s1.code == 0) = false := beq_eq_false_iff_ne.mpr c5
        have q2 : (s1.code != 0) = true := bne_iff_ne.mpr c5
        have HH := Aside0.mk H
        clear H c5
        go_wp2_with (go_at_call 58; refine (rs_next w0 w1 g s1 K1.out.rd).mono ?_; rintro e _ ⟨rfl, rfl⟩)
        have K3 := K1.out
        refine (rs_take w0 w1 g _ K3.rd).mono ?_
        rintro e w9 ⟨rfl, h9, k9⟩
        have K9 := Aside0.mk (K3.gstep HG.out h9 k9)
        clear K3 h9 k9
        go_wp2
        go_roundg k1
        case measure => have h_ := HQ.out; omega
        case rel => exact ⟨_, _, _, _, HH, ⟨by have h_ := HQ.out; omega⟩, K9⟩
      ·
       rw [queryB_list] at c4
       have q4 : (s'.next.toList == ([113, 117, 101, 114, 121] : List UInt8)) = false := beq_eq_false_iff_ne.mpr c4
       clear c3 c4
       go_wp2_with (go_at_call 58; refine (rs_next w0 wr g s' HK.out.rd).mono ?_; rintro e _ ⟨rfl, rfl⟩)
       refine (rs_must w0 wr g s' headerB HK.out.rd).mono ?_
       rintro e w1 ⟨rfl, h1, k1_⟩
       have K1 := Aside0.mk (HK.out.gstep HG.out h1 k1_)
       clear h1 k1_ HK i4 f4 g1 q1 q2 q3 q4
       generalize s'.must headerB = s1 at *
       have g1 := K1.out.rd.code_cell
       have H := HH.out
       clear HH
       by_cases c5 : s1.code = 0
       ·
        rw [if_pos c5] at H
        have q1 : (s1.code == 0) = true := beq_iff_eq.mpr c5
        have q2 : (s1.code != 0) = false := bne_eq_false_iff_eq.mpr c5
        clear c5
        obtain ⟨b, A1, H⟩ := Option.bind_eq_some_iff.mp H
        have A1' := Aside0.mk A1
        clear A1
        cases b with
        | false =>
         rw [if_neg (by simp)] at H
         have HH := Aside0.mk H
         clear H
         go_wp2_with (first | (go_at_call 58; refine (rs_next w0 w1 g s1 K1.out.rd).mono ?_; rintro e _ ⟨rfl, rfl⟩) | (go_at_call 54; refine (conf_head.calls k1 _ false _ A1'.out).mono ?_; rintro e w2 ⟨rfl, hb2⟩))
         have K2 := K1.out.bstep HG.out hb2
         clear K1 hb2
         refine (rs_fail w0 w2 g s1 30 K2.rd).mono ?_
         rintro e w3 ⟨rfl, h3, k3⟩
         have K3 := K2.gstep HG.out h3 k3
         clear K2 h3 k3
         go_wp2_with fail
         refine (rs_take w0 w3 g _ K3.rd).mono ?_
         rintro e w9 ⟨rfl, h9, k9⟩
         have K9 := Aside0.mk (K3.gstep HG.out h9 k9)
         clear K3 h9 k9
         go_wp2
         go_roundg k1
         case measure => have h_ := HQ.out; omega
         case rel => exact ⟨_, _, _, _, HH, ⟨by have h_ := HQ.out; omega⟩, K9⟩
        | true =>
         rw [if_pos rfl] at H
         obtain ⟨c, A2, H⟩ := Option.bind_eq_some_iff.mp H
         have A2' := Aside0.mk A2
         clear A2
         go_wp2_with (first | (go_at_call 58; refine (rs_next w0 w1 g s1 K1.out.rd).mono ?_; rintro e _ ⟨rfl, rfl⟩) | (go_at_call 54; refine (conf_head.calls k1 _ true _ A1'.out).mono ?_; rintro e w2 ⟨rfl, hb2⟩; have K2 := K1.out.bstep HG.out hb2; have i6 := (blk_cell K2.site 6).trans rfl))
         have L2 := Aside0.mk K2.len
         refine (clone_own w2 _ _ v hs K2.row (by have h_ := L2.out; omega)).mono ?_
         rintro e w3 ⟨v3, rfl, r3, hb3⟩
         have K2' := Aside0.mk K2
         have HR3 := Aside0.mk r3
         have HB3 := Aside0.mk hb3
         clear K1 K2 hb2 i6 r3 hb3
         generalize s1.next = x at *
         obtain ⟨ys, hys⟩ : ∃ ys : List ByteArray, ys = hs ++ [x] := ⟨_, rfl⟩
         have A3' := Aside0.mk (show conf_rising.f k1 ys = some c by rw [hys]; exact A2'.out)
         have HYS := Aside0.mk hys
         clear A2' hys
         go_wp2_with ((try (refine gate_guard (by rfl) ?_; dsimp only)); at_builtin; refine Kd.R_append Kd.string (w0 := w2) w2.heap.size rfl (.tmp 69) (.tmp 71) 55 9 (.string ⟨#[]⟩) 16 rfl Tryz.underlying55 infoStr_ rfl (by decide) (by omega) v3 hs x [.string x] (fun _ => True) (fun _ => False) rfl rfl ?aP (fun _ hk => hk.elim) (fun _ _ => trivial) HR3.out HB3.out HB3.out.size (by have h_ := L2.out; omega) ?_; (case aP => exact rfl); intro v4 w4 r4 hb4 _ _; rw [← HYS.out] at r4; obtain ⟨Ar, cr, rfl, hle, hC⟩ := Kd.R_reads r4)
         refine (conf_rising.calls k1 Ar cr ys c w4 hC hle A3'.out).mono ?_
         rintro e w5 ⟨rfl, ⟨nd, rfl⟩⟩
         have K5 := K2'.out.bstep HG.out (zN_ hb4 nd)
         clear K2' r4 hC hle hb4 HR3 HB3 A3' HYS
         generalize w4.drewN nd = w5 at *
         cases c with
         | false =>
          rw [if_neg (by simp)] at H
          have HH := Aside0.mk H
          clear H
          go_wp2_with fail
          refine (rs_fail w0 w5 g s1 30 K5.rd).mono ?_
          rintro e w6 ⟨rfl, h6, k6⟩
          have K3 := K5.gstep HG.out h6 k6
          clear K5 h6 k6
          go_wp2_with fail
          refine (rs_take w0 w6 g _ K3.rd).mono ?_
          rintro e w9 ⟨rfl, h9, k9⟩
          have K9 := Aside0.mk (K3.gstep HG.out h9 k9)
          clear K3 h9 k9
          go_wp2
          go_roundg k1
          case measure => have h_ := HQ.out; omega
          case rel => exact ⟨_, _, _, _, HH, ⟨by have h_ := HQ.out; omega⟩, K9⟩
         | true =>
          rw [if_pos rfl] at H
          obtain ⟨Av, cv, rfl⟩ := Kd.R_slice K5.row
          have i6 := (blk_cell K5.site 6).trans rfl
          have f6 := blk_frozen K5.site 6
          by_cases c6 : hs.length = 4
          ·
           rw [if_pos c6] at H
           have q5 : ((hs.length : Int) == 4) = true := beq_iff_eq.mpr (by omega)
           have q6 : (hs.length == 4) = true := beq_iff_eq.mpr c6
           have HH := Aside0.mk H
           clear H c6
           go_wp2_with fail
           refine (rs_fail w0 w5 g s1 32 K5.rd).mono ?_
           rintro e w6 ⟨rfl, h6, k6⟩
           have K3 := K5.gstep HG.out h6 k6
           clear K5 h6 k6 i6 f6
           go_wp2_with fail
           refine (rs_take w0 w6 g _ K3.rd).mono ?_
           rintro e w9 ⟨rfl, h9, k9⟩
           have K9 := Aside0.mk (K3.gstep HG.out h9 k9)
           clear K3 h9 k9
           go_wp2
           go_roundg k1
           case measure => have h_ := HQ.out; omega
           case rel => exact ⟨_, _, _, _, HH, ⟨by have h_ := HQ.out; omega⟩, K9⟩
          ·
           rw [if_neg c6] at H
           have q5 : ((hs.length : Int) == 4) = false := beq_eq_false_iff_ne.mpr (by omega)
           have q6 : (hs.length == 4) = false := beq_eq_false_iff_ne.mpr c6
           have LN := (show (hs ++ [x]).length ≤ 4 from by rw [List.length_append]; have h_ := L2.out; simp only [List.length_cons, List.length_nil]; omega)
           obtain ⟨ys, hys⟩ : ∃ ys : List ByteArray, ys = hs ++ [x] := ⟨_, rfl⟩
           rw [← hys] at H LN
           have HYS := Aside0.mk hys
           have HH := Aside0.mk H
           have K5' := Aside0.mk K5
           clear H c6 K5 hys
           go_wp2_with (at_builtin; refine Kd.R_append Kd.string (w0 := w5) w.heap.size rfl (.tmp 47) (.tmp 49) 55 9 (.string ⟨#[]⟩) 16 rfl Tryz.underlying55 infoStr_ rfl (by decide) (by omega) (.slice Av hs.length cv) hs x [.string x] (fun k => k ≠ g ∧ k ≠ sb) (fun _ => False) rfl rfl ?aP (fun _ hk => hk.elim) ?aF K5'.out.row (Below.refl _ _) K5'.out.kept.1 (by have h_ := L2.out; omega) ?_; (case aP => exact rfl); (case aF => exact fun k hk => ⟨by have h1_ := HGL.out; have h2_ := K5'.out.kept.1; omega, by have h1_ := HSBL.out; have h2_ := K5'.out.kept.1; omega⟩); intro v6 w6 r6 hb6 _ _; rw [← HYS.out] at r6; obtain ⟨A6, c6, rfl⟩ := Kd.R_slice r6; have f7 := blk_frozen ((hb6.block sb HSBL.out).trans K5'.out.site) 6; have i7 := (blk_cell ((hb6.block sb HSBL.out).trans K5'.out.site) 6).trans rfl)
           have hs6 : SiteAt w6 sb host o mi ma _ kp (.slice Av hs.length cv) := (hb6.block sb HSBL.out).trans K5'.out.site
           have kk6 : Kept w w6 (fun i => i = g ∨ i = sb) := ⟨Nat.le_trans K5'.out.kept.1 hb6.size, fun i hi hS => (hb6.block i hi).trans (K5'.out.kept.2 i hi hS)⟩
           have rd6 : RdS w0 w6 g s1 := by
            obtain ⟨⟨wb, off, n_, cap, hn_, hh, hc, hr⟩, h2, h3, h4⟩ := K5'.out.rd
            exact ⟨⟨wb, off, n_, cap, hn_, (hb6.block g HGL.out).trans hh, hc, hr⟩, h2, h3.trans (hb6.mono HWL.out), h4⟩
           have hk7 := Kept.set_ w6 sb 6 (.slice A6 ys.length c6)
           have hb7 : Below w0.heap.size w0 (w6.setCell ⟨sb, 6, none⟩ (.slice A6 ys.length c6)) := rd6.2.2.1.setCell HSL.out _
           have hs7 : SiteAt (w6.setCell ⟨sb, 6, none⟩ (.slice A6 ys.length c6)) sb host o mi ma _ kp (.slice A6 ys.length c6) := blk_put hs6 6 _ rfl
           generalize w6.setCell ⟨sb, 6, none⟩ (.slice A6 ys.length c6) = w7 at *
           have K3 : KeyI w0 w g sb host o mi ma kp w7 s1 _ ys (.slice A6 ys.length c6) := ⟨rd6.kept hk7 HG.out hb7, hs7, R_kept r6 hk7 (fun k ho => ho.2), Kept.trans_ kk6 (Kept.mono_ hk7 (fun _ e => .inr e)), LN⟩
           clear K5' i6 f6 f7 i7 r6 LN HYS hb6 hs6 kk6 rd6 hk7 hb7 hs7
           refine (rs_take w0 w7 g _ K3.rd).mono ?_
           rintro e w9 ⟨rfl, h9, k9⟩
           have K9 := Aside0.mk (K3.gstep HG.out h9 k9)
           clear K3 h9 k9
           go_wp2
           go_roundg k1
           case measure => have h_ := HQ.out; omega
           case rel => exact ⟨_, _, _, _, HH, ⟨by have h_ := HQ.out; omega⟩, K9⟩
       ·
        rw [if_neg c5] at H
        have q1 : (s1.code == 0) = false := beq_eq_false_iff_ne.mpr c5
        have q2 : (s1.code != 0) = true := bne_iff_ne.mpr c5
        have HH := Aside0.mk H
        clear H c5
        go_wp2_with (go_at_call 58; refine (rs_next w0 w1 g s1 K1.out.rd).mono ?_; rintro e _ ⟨rfl, rfl⟩)
        have K3 := K1.out
        refine (rs_take w0 w1 g _ K3.rd).mono ?_
        rintro e w9 ⟨rfl, h9, k9⟩
        have K9 := Aside0.mk (K3.gstep HG.out h9 k9)
        clear K3 h9 k9
        go_wp2
        go_roundg k1
        case measure => have h_ := HQ.out; omega
        case rel => exact ⟨_, _, _, _, HH, ⟨by have h_ := HQ.out; omega⟩, K9⟩
   ·
    rw [if_neg c1] at H
    obtain rfl := Option.some.inj H
    have q1 : (s'.code == 0) = false := beq_eq_false_iff_ne.mpr c1
    clear H c1
    go_wp2
    go_end0
    exact ⟨rfl, _, HK.out⟩

end Go.Proofs.YtlncpbnadlpihaaGreatDoor.PAll
