import Derived.Test.YtfcifigemiafgaaDoorPAllx0
import Derived.Test.YtfcifigemiafgaaDoorPAllx2
namespace Go.Proofs.YtfcifigemiafgaaDoor.PAll
open Go.RowKit Go.Proofs.YtfcifigemiafgaaDoorW.PrintWords Go.Proofs.YtfcifigemiafgaaDoorW.PrintLast Go.Proofs.YtfcifigemiafgaaDoorW.PrintMore
attribute [local go_sem] max2_int min2_int max_two min_two max_three min_three max_four min_four   -- for this text's walks alone
set_option linter.unusedVariables false
set_option linter.unusedSimpArgs false

-- NOT PRINTED: function 98 (strconv_ParseUint)

-- NOT PRINTED: function 89 (strconv_ParseInt)

-- NOT PRINTED: function 74 (strconv_Atoi_74)

-- NOT PRINTED: function 99 (stringslite_Clone)

-- NOT PRINTED: function 90 (strconv_syntaxError)

-- NOT PRINTED: function 91 (strconv_rangeError)

/-! ### strconv_Itoa: function 27, by hand -/
def strconv_Itoa.f (a0 : Int) : Option ByteArray := if -9223372036854775808 ≤ a0 ∧ a0 ≤ 9223372036854775807 then some ⟨(Lib.itoa a0).toArray⟩ else none
theorem below_grow_ (w : World) (k : Nat) (os : Array Obj) : Below w.heap.size w (Go.Sort.grow (w.drewN k) os) :=
 ⟨rfl, rfl, rfl, by show w.heap.size ≤ (w.heap ++ os).size; rw [Array.size_append]; omega, fun j hj => Go.Sort.heap_grow_old (w.drewN k) os hj⟩
theorem strconv_Itoa.calls (a0 : Int) (r : ByteArray) (w : World) (hrW : WF w) (h : strconv_Itoa.f a0 = some r) :
  Calls Tryd.prog 27 #[.int .i64 a0] w fun e w' => e = .returned (.string r) ∧ Below w.heap.size w w' := by
 unfold strconv_Itoa.f at h
 split at h
 case isTrue hb =>
  obtain rfl := Option.some.inj h
  refine (Tryd.strconv_Itoa a0 hb.1 hb.2 w hrW.tab).mono ?_
  rintro e w' ⟨rfl, k, os, rfl⟩
  exact ⟨rfl, below_grow_ w k os⟩
 case isFalse => cases h
theorem Itoa_nat (n : Nat) (hn : n ≤ 9223372036854775807) (w : World) (hrW : WF w) :
  Calls Tryd.prog 27 #[.int .i64 n] w fun e w' => e = .returned (.string ⟨(Lib.decDigits n).toArray⟩) ∧ Below w.heap.size w w' := by
 refine strconv_Itoa.calls (n : Int) _ w hrW ?_
 unfold strconv_Itoa.f Lib.itoa
 rw [if_pos (by omega), if_neg (by omega)]
 rfl

-- NOT PRINTED: function 100 (errors_New)

-- NOT PRINTED: function 92 (strconv_baseError)

-- NOT PRINTED: function 93 (strconv_bitSizeError)

-- NOT PRINTED: function 75 (strconv_toError)

-- NOT PRINTED: function 61 (strconv_Atoi_61)

/-! ### conf_reader_number: function 45, by hand -/
-- over 34 32 41
theorem RdS.below {w0 w w' : World} {g : Nat} {s : RS} (h : RdS w0 w g s) (hb : Below w.heap.size w w') : RdS w0 w' g s :=
 ⟨h.1.kept (Kept.below_ (fun _ => False) hb) (fun h => h), h.2.1, h.2.2.1.trans (hb.mono h.2.2.1.size), h.2.2.2⟩
def atoiM (t : ByteArray) : Int := match Lib.atoiAll t.data.toList with
 | .ok v => v
 | .range => Lib.atoiSat t.data.toList
 | _ => 0
def atoiE (t : ByteArray) : Bool := match Lib.atoiAll t.data.toList with
 | .ok _ => false
 | _ => true
theorem bytesWorld_below (w : World) (e : TypeId) (s : ByteArray) : Below w.heap.size w (Lib.bytesWorld w e s) := by
 unfold Lib.bytesWorld
 refine ⟨rfl, rfl, rfl, by simp [World.freeze], fun k hk => ?_⟩
 show ((w.drew.alloc _).heap.modify w.heap.size _)[k]? = _
 rw [Array.getElem?_modify, if_neg (by omega)]
 exact Below.heap_alloc w.drew _ k hk
theorem atoi_ok (t : ByteArray) (w : World) (hs : t.size ≤ 9223372036854775806) (he : atoiE t = false) :
  Calls Tryd.prog 61 #[.string t] w fun e w' => e = .returned (.tuple #[.int .i64 (atoiM t), .nilIface]) ∧ Below w.heap.size w w' := by
 unfold atoiE at he
 unfold atoiM
 split at he
 case h_1 v hv =>
  rw [hv]
  refine (Tryd.strconv_Atoi_ok t hs v hv w).mono ?_
  rintro e w' ⟨rfl, hw⟩
  refine ⟨rfl, ?_⟩
  rcases hw with rfl | ⟨q, rfl⟩
  ·
   exact Below.refl _ _
  ·
   exact bytesWorld_below _ _ _
 case h_2 => cases he
theorem atoi_err (t : ByteArray) (w : World) (hs : t.size ≤ 281474976710656) (hW : WF w) (he : atoiE t = true) :
  Calls Tryd.prog 61 #[.string t] w fun e w' => ∃ N, e = .returned (.tuple #[.int .i64 (atoiM t), .iface 136 (.pointer (some ⟨N, 0, none⟩))]) ∧ Below w.heap.size w w' := by
 obtain ⟨_, ⟨tp, p, h1⟩, tq, q, h2⟩ := hW
 unfold atoiE at he
 unfold atoiM
 cases hv : Lib.atoiAll t.data.toList with
 | ok v => rw [hv] at he; cases he
 | range =>
  refine (Tryd.strconv_Atoi_range_var t hs hv tq q w h2).mono ?_
  rintro e w' ⟨N, rfl, _, _, hb⟩
  exact ⟨N, rfl, hb⟩
 | _ =>
  refine (Tryd.strconv_Atoi_syntax_var t hs hv tp p w h1).mono ?_
  rintro e w' ⟨N, rfl, _, _, hb⟩
  exact ⟨N, rfl, hb⟩
def numBad (t : ByteArray) (ok : Bool) : Bool := !ok || atoiE t || decide (10 < t.size)
def numOff (t : ByteArray) (n lo hi : Int) : Bool := (n != atoiM t) || decide (n < lo) || decide (hi < n)
def RS.number (s : RS) (n : Int) (ok : Bool) (lo hi : Int) : RS := (if numBad s.next ok = true then s.fail 30 else if numOff s.next n lo hi = true then s.fail 11 else s).take

set_option maxHeartbeats 2000000 in
set_option maxRecDepth 100000 in
theorem num_a1 (w0 w : World) (g : Nat) (s : RS) (k : Nat) (n : Int) (ok : Bool) (lo hi : Int) (h : RdS w0 w g s) (hW : WF w) (hz : s.next.size ≤ 281474976710656) (hN : sign_Number.f k s.next = some (n, ok)) (hok : ok = false) (hE : atoiE s.next = true) :
  Calls Tryd.prog 45 #[.pointer (some ⟨g, 0, none⟩), .int .i64 lo, .int .i64 hi] w fun e w' => e = .returned (.int .i64 n) ∧ RdS w0 w' g (s.fail 30).take ∧ Kept w w' (fun k => k = g) := by
 subst hok
 have HE := Aside0.mk hE
 clear hE
 have CN := fun w' h => (rs_next w0 w' g s h)
 have HN := Aside0.mk hN
 have HW := Aside0.mk hW
 have HZ := Aside0.mk hz
 generalize s.next = t at *
 have HC := Aside0.mk CN
 clear hN hW hz CN
 go_enter Tryd.func45, Tryd.ntmps45
 go_wp2_with (go_at_call 30; refine (HC.out w h).mono ?_; rintro e _ ⟨rfl, rfl⟩)
 refine (sign_Number.calls k _ n _ _ HN.out).mono ?_
 rintro e w1 ⟨rfl, hb1⟩
 have h1 := RdS.below h hb1
 go_wp2_with (go_at_call 30; refine (HC.out w1 h1).mono ?_; rintro e _ ⟨rfl, rfl⟩)
 refine (atoi_err t w1 HZ.out (HW.out.below hb1) HE.out).mono ?_
 rintro e w2 ⟨N, rfl, hb2⟩
 have h2 := RdS.below h1 hb2
 have K2 := Kept.trans_ (Kept.below_ (fun k => k = g) hb1) (Kept.below_ (fun k => k = g) hb2)
 go_wp2_with fail
 refine (rs_fail w0 w2 g s 30 h2).mono ?_
 rintro e w3 ⟨rfl, h3, k3⟩
 go_wp2_with fail
 refine (rs_take w0 w3 g _ h3).mono ?_
 rintro e w4 ⟨rfl, h4, k4⟩
 go_wp2
 go_ret
 exact ⟨rfl, h4, Kept.trans_ K2 (Kept.trans_ k3 k4)⟩
set_option maxHeartbeats 2000000 in
set_option maxRecDepth 100000 in
theorem num_a2 (w0 w : World) (g : Nat) (s : RS) (k : Nat) (n : Int) (ok : Bool) (lo hi : Int) (h : RdS w0 w g s) (hW : WF w) (hz : s.next.size ≤ 281474976710656) (hN : sign_Number.f k s.next = some (n, ok)) (hok : ok = false) (hE : atoiE s.next = false) :
  Calls Tryd.prog 45 #[.pointer (some ⟨g, 0, none⟩), .int .i64 lo, .int .i64 hi] w fun e w' => e = .returned (.int .i64 n) ∧ RdS w0 w' g (s.fail 30).take ∧ Kept w w' (fun k => k = g) := by
 subst hok
 have HE := Aside0.mk hE
 clear hE
 have CN := fun w' h => (rs_next w0 w' g s h)
 have HN := Aside0.mk hN
 have HW := Aside0.mk hW
 have HZ := Aside0.mk hz
 generalize s.next = t at *
 have HC := Aside0.mk CN
 clear hN hW hz CN
 go_enter Tryd.func45, Tryd.ntmps45
 go_wp2_with (go_at_call 30; refine (HC.out w h).mono ?_; rintro e _ ⟨rfl, rfl⟩)
 refine (sign_Number.calls k _ n _ _ HN.out).mono ?_
 rintro e w1 ⟨rfl, hb1⟩
 have h1 := RdS.below h hb1
 go_wp2_with (go_at_call 30; refine (HC.out w1 h1).mono ?_; rintro e _ ⟨rfl, rfl⟩)
 refine (atoi_ok t w1 (by have := HZ.out; omega) HE.out).mono ?_
 rintro e w2 ⟨rfl, hb2⟩
 have h2 := RdS.below h1 hb2
 have K2 := Kept.trans_ (Kept.below_ (fun k => k = g) hb1) (Kept.below_ (fun k => k = g) hb2)
 go_wp2_with fail
 refine (rs_fail w0 w2 g s 30 h2).mono ?_
 rintro e w3 ⟨rfl, h3, k3⟩
 go_wp2_with fail
 refine (rs_take w0 w3 g _ h3).mono ?_
 rintro e w4 ⟨rfl, h4, k4⟩
 go_wp2
 go_ret
 exact ⟨rfl, h4, Kept.trans_ K2 (Kept.trans_ k3 k4)⟩
set_option maxHeartbeats 2000000 in
set_option maxRecDepth 100000 in
theorem num_b (w0 w : World) (g : Nat) (s : RS) (k : Nat) (n : Int) (ok : Bool) (lo hi : Int) (h : RdS w0 w g s) (hW : WF w) (hz : s.next.size ≤ 281474976710656) (hN : sign_Number.f k s.next = some (n, ok)) (hok : ok = true) (hE : atoiE s.next = true) :
  Calls Tryd.prog 45 #[.pointer (some ⟨g, 0, none⟩), .int .i64 lo, .int .i64 hi] w fun e w' => e = .returned (.int .i64 n) ∧ RdS w0 w' g (s.fail 30).take ∧ Kept w w' (fun k => k = g) := by
 subst hok
 have HE := Aside0.mk hE
 clear hE
 have CN := fun w' h => (rs_next w0 w' g s h)
 have HN := Aside0.mk hN
 have HW := Aside0.mk hW
 have HZ := Aside0.mk hz
 generalize s.next = t at *
 have HC := Aside0.mk CN
 clear hN hW hz CN
 go_enter Tryd.func45, Tryd.ntmps45
 go_wp2_with (go_at_call 30; refine (HC.out w h).mono ?_; rintro e _ ⟨rfl, rfl⟩)
 refine (sign_Number.calls k _ n _ _ HN.out).mono ?_
 rintro e w1 ⟨rfl, hb1⟩
 have h1 := RdS.below h hb1
 go_wp2_with (go_at_call 30; refine (HC.out w1 h1).mono ?_; rintro e _ ⟨rfl, rfl⟩)
 refine (atoi_err t w1 HZ.out (HW.out.below hb1) HE.out).mono ?_
 rintro e w2 ⟨N, rfl, hb2⟩
 have h2 := RdS.below h1 hb2
 have K2 := Kept.trans_ (Kept.below_ (fun k => k = g) hb1) (Kept.below_ (fun k => k = g) hb2)
 go_wp2_with fail
 refine (rs_fail w0 w2 g s 30 h2).mono ?_
 rintro e w3 ⟨rfl, h3, k3⟩
 go_wp2_with fail
 refine (rs_take w0 w3 g _ h3).mono ?_
 rintro e w4 ⟨rfl, h4, k4⟩
 go_wp2
 go_ret
 exact ⟨rfl, h4, Kept.trans_ K2 (Kept.trans_ k3 k4)⟩
set_option maxHeartbeats 2000000 in
set_option maxRecDepth 100000 in
theorem num_c (w0 w : World) (g : Nat) (s : RS) (k : Nat) (n : Int) (ok : Bool) (lo hi : Int) (h : RdS w0 w g s) (hW : WF w) (hz : s.next.size ≤ 281474976710656) (hN : sign_Number.f k s.next = some (n, ok)) (hok : ok = true) (hE : atoiE s.next = false) (hs : 10 < s.next.size) :
  Calls Tryd.prog 45 #[.pointer (some ⟨g, 0, none⟩), .int .i64 lo, .int .i64 hi] w fun e w' => e = .returned (.int .i64 n) ∧ RdS w0 w' g (s.fail 30).take ∧ Kept w w' (fun k => k = g) := by
 subst hok
 have HE := Aside0.mk hE
 have q1 : decide (10 < s.next.size) = true := decide_eq_true hs
 have q2 : decide ((10 : Int) < (s.next.size : Int)) = true := decide_eq_true (by omega)
 clear hE hs
 have CN := fun w' h => (rs_next w0 w' g s h)
 have HN := Aside0.mk hN
 have HW := Aside0.mk hW
 have HZ := Aside0.mk hz
 generalize s.next = t at *
 have HC := Aside0.mk CN
 clear hN hW hz CN
 go_enter Tryd.func45, Tryd.ntmps45
 go_wp2_with (go_at_call 30; refine (HC.out w h).mono ?_; rintro e _ ⟨rfl, rfl⟩)
 refine (sign_Number.calls k _ n _ _ HN.out).mono ?_
 rintro e w1 ⟨rfl, hb1⟩
 have h1 := RdS.below h hb1
 go_wp2_with (go_at_call 30; refine (HC.out w1 h1).mono ?_; rintro e _ ⟨rfl, rfl⟩)
 refine (atoi_ok t w1 (by have := HZ.out; omega) HE.out).mono ?_
 rintro e w2 ⟨rfl, hb2⟩
 have h2 := RdS.below h1 hb2
 have K2 := Kept.trans_ (Kept.below_ (fun k => k = g) hb1) (Kept.below_ (fun k => k = g) hb2)
 go_wp2_with (go_at_call 30; refine (HC.out w2 h2).mono ?_; rintro e _ ⟨rfl, rfl⟩)
 refine (rs_fail w0 w2 g s 30 h2).mono ?_
 rintro e w3 ⟨rfl, h3, k3⟩
 go_wp2_with fail
 refine (rs_take w0 w3 g _ h3).mono ?_
 rintro e w4 ⟨rfl, h4, k4⟩
 go_wp2
 go_ret
 exact ⟨rfl, h4, Kept.trans_ K2 (Kept.trans_ k3 k4)⟩
set_option maxHeartbeats 2000000 in
set_option maxRecDepth 100000 in
theorem num_d1 (w0 w : World) (g : Nat) (s : RS) (k : Nat) (n : Int) (ok : Bool) (lo hi : Int) (h : RdS w0 w g s) (hW : WF w) (hz : s.next.size ≤ 281474976710656) (hN : sign_Number.f k s.next = some (n, ok)) (hok : ok = true) (hE : atoiE s.next = false) (hs : ¬ 10 < s.next.size) (hm : n ≠ atoiM s.next) :
  Calls Tryd.prog 45 #[.pointer (some ⟨g, 0, none⟩), .int .i64 lo, .int .i64 hi] w fun e w' => e = .returned (.int .i64 n) ∧ RdS w0 w' g (s.fail 11).take ∧ Kept w w' (fun k => k = g) := by
 subst hok
 have HE := Aside0.mk hE
 have q1 : decide (10 < s.next.size) = false := decide_eq_false hs
 have q2 : decide ((10 : Int) < (s.next.size : Int)) = false := decide_eq_false (by omega)
 have q3 : (n == atoiM s.next) = false := beq_eq_false_iff_ne.mpr hm
 have q4 : (n != atoiM s.next) = true := bne_iff_ne.mpr hm
 clear hE hs hm
 have CN := fun w' h => (rs_next w0 w' g s h)
 have HN := Aside0.mk hN
 have HW := Aside0.mk hW
 have HZ := Aside0.mk hz
 generalize s.next = t at *
 have HC := Aside0.mk CN
 clear hN hW hz CN
 go_enter Tryd.func45, Tryd.ntmps45
 go_wp2_with (go_at_call 30; refine (HC.out w h).mono ?_; rintro e _ ⟨rfl, rfl⟩)
 refine (sign_Number.calls k _ n _ _ HN.out).mono ?_
 rintro e w1 ⟨rfl, hb1⟩
 have h1 := RdS.below h hb1
 go_wp2_with (go_at_call 30; refine (HC.out w1 h1).mono ?_; rintro e _ ⟨rfl, rfl⟩)
 refine (atoi_ok t w1 (by have := HZ.out; omega) HE.out).mono ?_
 rintro e w2 ⟨rfl, hb2⟩
 have h2 := RdS.below h1 hb2
 have K2 := Kept.trans_ (Kept.below_ (fun k => k = g) hb1) (Kept.below_ (fun k => k = g) hb2)
 go_wp2_with (go_at_call 30; refine (HC.out w2 h2).mono ?_; rintro e _ ⟨rfl, rfl⟩)
 refine (rs_fail w0 w2 g s 11 h2).mono ?_
 rintro e w3 ⟨rfl, h3, k3⟩
 go_wp2_with fail
 refine (rs_take w0 w3 g _ h3).mono ?_
 rintro e w4 ⟨rfl, h4, k4⟩
 go_wp2
 go_ret
 exact ⟨rfl, h4, Kept.trans_ K2 (Kept.trans_ k3 k4)⟩
set_option maxHeartbeats 2000000 in
set_option maxRecDepth 100000 in
theorem num_d2 (w0 w : World) (g : Nat) (s : RS) (k : Nat) (n : Int) (ok : Bool) (lo hi : Int) (h : RdS w0 w g s) (hW : WF w) (hz : s.next.size ≤ 281474976710656) (hN : sign_Number.f k s.next = some (n, ok)) (hok : ok = true) (hE : atoiE s.next = false) (hs : ¬ 10 < s.next.size) (hm : n = atoiM s.next) (hl : n < lo) :
  Calls Tryd.prog 45 #[.pointer (some ⟨g, 0, none⟩), .int .i64 lo, .int .i64 hi] w fun e w' => e = .returned (.int .i64 n) ∧ RdS w0 w' g (s.fail 11).take ∧ Kept w w' (fun k => k = g) := by
 subst hok
 have HE := Aside0.mk hE
 have q1 : decide (10 < s.next.size) = false := decide_eq_false hs
 have q2 : decide ((10 : Int) < (s.next.size : Int)) = false := decide_eq_false (by omega)
 have q3 : (n == atoiM s.next) = true := beq_iff_eq.mpr hm
 have q4 : (n != atoiM s.next) = false := bne_eq_false_iff_eq.mpr hm
 have q5 : decide (n < lo) = true := decide_eq_true hl
 clear hE hs hm hl
 have CN := fun w' h => (rs_next w0 w' g s h)
 have HN := Aside0.mk hN
 have HW := Aside0.mk hW
 have HZ := Aside0.mk hz
 generalize s.next = t at *
 have HC := Aside0.mk CN
 clear hN hW hz CN
 go_enter Tryd.func45, Tryd.ntmps45
 go_wp2_with (go_at_call 30; refine (HC.out w h).mono ?_; rintro e _ ⟨rfl, rfl⟩)
 refine (sign_Number.calls k _ n _ _ HN.out).mono ?_
 rintro e w1 ⟨rfl, hb1⟩
 have h1 := RdS.below h hb1
 go_wp2_with (go_at_call 30; refine (HC.out w1 h1).mono ?_; rintro e _ ⟨rfl, rfl⟩)
 refine (atoi_ok t w1 (by have := HZ.out; omega) HE.out).mono ?_
 rintro e w2 ⟨rfl, hb2⟩
 have h2 := RdS.below h1 hb2
 have K2 := Kept.trans_ (Kept.below_ (fun k => k = g) hb1) (Kept.below_ (fun k => k = g) hb2)
 go_wp2_with (go_at_call 30; refine (HC.out w2 h2).mono ?_; rintro e _ ⟨rfl, rfl⟩)
 refine (rs_fail w0 w2 g s 11 h2).mono ?_
 rintro e w3 ⟨rfl, h3, k3⟩
 go_wp2_with fail
 refine (rs_take w0 w3 g _ h3).mono ?_
 rintro e w4 ⟨rfl, h4, k4⟩
 go_wp2
 go_ret
 exact ⟨rfl, h4, Kept.trans_ K2 (Kept.trans_ k3 k4)⟩
set_option maxHeartbeats 2000000 in
set_option maxRecDepth 100000 in
theorem num_d3 (w0 w : World) (g : Nat) (s : RS) (k : Nat) (n : Int) (ok : Bool) (lo hi : Int) (h : RdS w0 w g s) (hW : WF w) (hz : s.next.size ≤ 281474976710656) (hN : sign_Number.f k s.next = some (n, ok)) (hok : ok = true) (hE : atoiE s.next = false) (hs : ¬ 10 < s.next.size) (hm : n = atoiM s.next) (hl : ¬ n < lo) (hh : hi < n) :
  Calls Tryd.prog 45 #[.pointer (some ⟨g, 0, none⟩), .int .i64 lo, .int .i64 hi] w fun e w' => e = .returned (.int .i64 n) ∧ RdS w0 w' g (s.fail 11).take ∧ Kept w w' (fun k => k = g) := by
 subst hok
 have HE := Aside0.mk hE
 have q1 : decide (10 < s.next.size) = false := decide_eq_false hs
 have q2 : decide ((10 : Int) < (s.next.size : Int)) = false := decide_eq_false (by omega)
 have q3 : (n == atoiM s.next) = true := beq_iff_eq.mpr hm
 have q4 : (n != atoiM s.next) = false := bne_eq_false_iff_eq.mpr hm
 have q5 : decide (n < lo) = false := decide_eq_false hl
 have q6 : decide (hi < n) = true := decide_eq_true hh
 clear hE hs hm hl hh
 have CN := fun w' h => (rs_next w0 w' g s h)
 have HN := Aside0.mk hN
 have HW := Aside0.mk hW
 have HZ := Aside0.mk hz
 generalize s.next = t at *
 have HC := Aside0.mk CN
 clear hN hW hz CN
 go_enter Tryd.func45, Tryd.ntmps45
 go_wp2_with (go_at_call 30; refine (HC.out w h).mono ?_; rintro e _ ⟨rfl, rfl⟩)
 refine (sign_Number.calls k _ n _ _ HN.out).mono ?_
 rintro e w1 ⟨rfl, hb1⟩
 have h1 := RdS.below h hb1
 go_wp2_with (go_at_call 30; refine (HC.out w1 h1).mono ?_; rintro e _ ⟨rfl, rfl⟩)
 refine (atoi_ok t w1 (by have := HZ.out; omega) HE.out).mono ?_
 rintro e w2 ⟨rfl, hb2⟩
 have h2 := RdS.below h1 hb2
 have K2 := Kept.trans_ (Kept.below_ (fun k => k = g) hb1) (Kept.below_ (fun k => k = g) hb2)
 go_wp2_with (go_at_call 30; refine (HC.out w2 h2).mono ?_; rintro e _ ⟨rfl, rfl⟩)
 refine (rs_fail w0 w2 g s 11 h2).mono ?_
 rintro e w3 ⟨rfl, h3, k3⟩
 go_wp2_with fail
 refine (rs_take w0 w3 g _ h3).mono ?_
 rintro e w4 ⟨rfl, h4, k4⟩
 go_wp2
 go_ret
 exact ⟨rfl, h4, Kept.trans_ K2 (Kept.trans_ k3 k4)⟩
set_option maxHeartbeats 2000000 in
set_option maxRecDepth 100000 in
theorem num_d4 (w0 w : World) (g : Nat) (s : RS) (k : Nat) (n : Int) (ok : Bool) (lo hi : Int) (h : RdS w0 w g s) (hW : WF w) (hz : s.next.size ≤ 281474976710656) (hN : sign_Number.f k s.next = some (n, ok)) (hok : ok = true) (hE : atoiE s.next = false) (hs : ¬ 10 < s.next.size) (hm : n = atoiM s.next) (hl : ¬ n < lo) (hh : ¬ hi < n) :
  Calls Tryd.prog 45 #[.pointer (some ⟨g, 0, none⟩), .int .i64 lo, .int .i64 hi] w fun e w' => e = .returned (.int .i64 n) ∧ RdS w0 w' g s.take ∧ Kept w w' (fun k => k = g) := by
 subst hok
 have HE := Aside0.mk hE
 have q1 : decide (10 < s.next.size) = false := decide_eq_false hs
 have q2 : decide ((10 : Int) < (s.next.size : Int)) = false := decide_eq_false (by omega)
 have q3 : (n == atoiM s.next) = true := beq_iff_eq.mpr hm
 have q4 : (n != atoiM s.next) = false := bne_eq_false_iff_eq.mpr hm
 have q5 : decide (n < lo) = false := decide_eq_false hl
 have q6 : decide (hi < n) = false := decide_eq_false hh
 clear hE hs hm hl hh
 have CN := fun w' h => (rs_next w0 w' g s h)
 have HN := Aside0.mk hN
 have HW := Aside0.mk hW
 have HZ := Aside0.mk hz
 generalize s.next = t at *
 have HC := Aside0.mk CN
 clear hN hW hz CN
 go_enter Tryd.func45, Tryd.ntmps45
 go_wp2_with (go_at_call 30; refine (HC.out w h).mono ?_; rintro e _ ⟨rfl, rfl⟩)
 refine (sign_Number.calls k _ n _ _ HN.out).mono ?_
 rintro e w1 ⟨rfl, hb1⟩
 have h1 := RdS.below h hb1
 go_wp2_with (go_at_call 30; refine (HC.out w1 h1).mono ?_; rintro e _ ⟨rfl, rfl⟩)
 refine (atoi_ok t w1 (by have := HZ.out; omega) HE.out).mono ?_
 rintro e w2 ⟨rfl, hb2⟩
 have h2 := RdS.below h1 hb2
 have K2 := Kept.trans_ (Kept.below_ (fun k => k = g) hb1) (Kept.below_ (fun k => k = g) hb2)
 go_wp2_with (go_at_call 30; refine (HC.out w2 h2).mono ?_; rintro e _ ⟨rfl, rfl⟩)
 refine (rs_take w0 w2 g _ h2).mono ?_
 rintro e w4 ⟨rfl, h4, k4⟩
 go_wp2
 go_ret
 exact ⟨rfl, h4, Kept.trans_ K2 k4⟩
theorem rs_number (w0 w : World) (g : Nat) (s : RS) (k : Nat) (n : Int) (ok : Bool) (lo hi : Int) (h : RdS w0 w g s) (hW : WF w) (hz : s.next.size ≤ 281474976710656) (hN : sign_Number.f k s.next = some (n, ok)) :
  Calls Tryd.prog 45 #[.pointer (some ⟨g, 0, none⟩), .int .i64 lo, .int .i64 hi] w fun e w' => e = .returned (.int .i64 n) ∧ RdS w0 w' g (s.number n ok lo hi) ∧ Kept w w' (fun k => k = g) := by
 unfold RS.number numBad numOff
 cases hok : ok with
 | false =>
  rw [if_pos (by simp)]
  cases hE : atoiE s.next with
  | true => exact num_a1 w0 w g s k n ok lo hi h hW hz hN hok hE
  | false => exact num_a2 w0 w g s k n ok lo hi h hW hz hN hok hE
 | true =>
  cases hE : atoiE s.next with
  | true =>
   rw [if_pos (by simp)]
   exact num_b w0 w g s k n ok lo hi h hW hz hN hok hE
  | false =>
   by_cases hs : 10 < s.next.size
   ·
    rw [if_pos (by simp [hs])]
    exact num_c w0 w g s k n ok lo hi h hW hz hN hok hE hs
   ·
    rw [if_neg (by simp [hs])]
    by_cases hm : n = atoiM s.next
    ·
     by_cases hl : n < lo
     ·
      rw [if_pos (by simp [hl])]
      exact num_d2 w0 w g s k n ok lo hi h hW hz hN hok hE hs hm hl
     ·
      by_cases hh : hi < n
      ·
       rw [if_pos (by simp [hh])]
       exact num_d3 w0 w g s k n ok lo hi h hW hz hN hok hE hs hm hl hh
      ·
       rw [if_neg (by simp [← hm, hl, hh])]
       exact num_d4 w0 w g s k n ok lo hi h hW hz hN hok hE hs hm hl hh
    ·
     rw [if_pos (by simp [hm])]
     exact num_d1 w0 w g s k n ok lo hi h hW hz hN hok hE hs hm

/-! ### conf_rising: function 47 -/
def conf_rising.l0 : Nat → List ByteArray → Int → Option (Bool)
 | 0, _, _ => none
 | k + 1, x0, x3 => if x3 < (x0.length : Int) then (if 0 ≤ x3 then (if 0 ≤ (wrap64 (x3 - 1)) then (if (wrap64 (x3 - 1)) < (x0.length : Int) then (if ((Op.bytesLess ((rdOf ByteArray.empty x0 (wrap64 (x3 - 1))).toList) ((rdOf ByteArray.empty x0 x3).toList)) = true) then (conf_rising.l0 k x0 (wrap64 (x3 + 1))) else (some false)) else (none)) else (none)) else (none)) else (some true)
def conf_rising.f (k : Nat) (l0 : List ByteArray) : Option (Bool) := conf_rising.l0 k l0 1
theorem conf_rising.mono_l : ∀ k, (∀ y0 y1, LeO (conf_rising.l0 k y0 y1) (conf_rising.l0 (k + 1) y0 y1))
 | 0 => fun _ _ r h => by simp [conf_rising.l0] at h
 | k + 1 => by
  have ih0 := conf_rising.mono_l k
  ·
   intro y0 y1
   unfold conf_rising.l0
   repeat' (with_reducible first | exact ih0 _ _ | exact lR_ | refine LeO.ite ?_ ?_ | refine LeO.bind ?_ (fun _ => ?_))
theorem conf_rising.mono : ∀ a0 k, LeO (conf_rising.f k a0) (conf_rising.f (k + 1) a0) := by
 intro a0 k
 have ih0 := conf_rising.mono_l k
 unfold conf_rising.f
 repeat' (with_reducible first | exact ih0 _ _ | exact lR_ | refine LeO.ite ?_ ?_ | refine LeO.bind ?_ (fun _ => ?_))
set_option maxHeartbeats 8000000 in
set_option maxRecDepth 100000 in
theorem conf_rising.calls (k : Nat) (A0 : Option Addr) (c0 : Nat) (l0 : List ByteArray) (r : Bool) (w : World) (hr0 : Kd.C Kd.string w A0 l0.length l0) (hc0 : l0.length ≤ c0) (h : conf_rising.f k l0 = some r) :
  Calls Tryd.prog 47 #[.slice A0 l0.length c0] w fun e w' => e = .returned (.bool r) ∧ Drawn0 w w' := by
 have HR0 := Aside0.mk hr0
 have HC0 := Aside0.mk hc0
 clear hr0 hc0
 have H : (conf_rising.l0 k l0 1) = some r := h
 clear h
 have H' := Aside0.mk H
 clear H
 go_enter Tryd.func47, Tryd.ntmps47
 go_wp2
 repeat (go_quiet (fail); try go_wp2)
 go_loopg [3] k (fun kq v3 w' => ∃ (x3_1 : Int), v3 = .int .i64 x3_1 ∧ Aside0 (conf_rising.l0 kq l0 x3_1 = some r) ∧ Aside0 (kq ≤ k) ∧ Drawn0 w w')
 case atStart => exact ⟨(1), E3_, H', ⟨Nat.le_refl _⟩, D1_⟩
 case round =>
  clear H'
  obtain ⟨x3_1, rfl, HA, HK1, ⟨m1, rfl⟩⟩ := hrel
  cases gk with
  | zero => exact absurd HA.out (by simp [conf_rising.l0])
  | succ k1 =>
   have H := HA.out
   clear HA
   simp only [conf_rising.l0] at H
   by_cases c2 : x3_1 < (l0.length : Int)
   ·
    rw [if_pos c2] at H
    have c2b0 : decide (x3_1 < (l0.length : Int)) = true := decide_eq_true c2
    clear c2
    by_cases c3 : 0 ≤ x3_1
    ·
     rw [if_pos c3] at H
     have c3b0 : decide (0 ≤ x3_1) = true := decide_eq_true c3
     clear c3
     obtain ⟨ji4, hji4⟩ : ∃ j_ : Int, (wrap64 (x3_1 - 1)) = j_ := ⟨_, rfl⟩
     replace H : (if 0 ≤ (ji4) then (if (ji4) < (l0.length : Int) then (if ((Op.bytesLess ((rdOf ByteArray.empty l0 (ji4)).toList) ((rdOf ByteArray.empty l0 x3_1).toList)) = true) then (conf_rising.l0 k1 l0 (wrap64 (x3_1 + 1))) else (some false)) else (none)) else (none)) = some r := by first | (rw [hji4] at H; exact H) | (simp only [hji4] at H ⊢; exact H)
     have hji4w : (IntKind.i64.wrap (x3_1 - 1)) = ji4 := (i64_w _).trans hji4
     by_cases c5 : 0 ≤ (ji4)
     ·
      rw [if_pos c5] at H
      have c5b0 : decide (0 ≤ (ji4)) = true := decide_eq_true c5
      clear c5
      by_cases c6 : (ji4) < (l0.length : Int)
      ·
       rw [if_pos c6] at H
       have c6b0 : decide ((ji4) < (l0.length : Int)) = true := decide_eq_true c6
       clear c6
       by_cases c7 : ((Op.bytesLess ((rdOf ByteArray.empty l0 (ji4)).toList) ((rdOf ByteArray.empty l0 x3_1).toList)) = true)
       ·
        rw [if_pos c7] at H
        have c7b0 : (Op.bytesLess ((rdOf ByteArray.empty l0 (ji4)).toList) ((rdOf ByteArray.empty l0 x3_1).toList)) = true := c7
        have c7b8 := bl_asymm c7b0
        have c7b9 := bl_ne c7b0
        clear c7
        have H' := Aside0.mk H
        clear H
        have p123 : 0 ≤ (x3_1 : Int) := oA_
        have q123 : x3_1 < (l0.length : Int) := oA_
        obtain ⟨ad123, e123, hx123_0⟩ := Kd.at_string HR0.out x3_1 p123 q123
        cases e123
        replace p123 := eq_true p123
        replace q123 := eq_true q123
        have p124 : 0 ≤ ((ji4) : Int) := oA_
        have q124 : (ji4) < (l0.length : Int) := oA_
        obtain ⟨ad124, e124, hx124_0⟩ := Kd.at_string HR0.out (ji4) p124 q124
        obtain rfl : ad123 = ad124 := (by injection e124)
        replace p124 := eq_true p124
        replace q124 := eq_true q124
        go_wp2
        repeat (go_quiet (fail); try go_wp2)
        go_roundg k1
        case measure => have := HK1.out; omega
        case rel => exact ⟨(wrap64 (x3_1 + 1)), E3_, H', ⟨by have := HK1.out; omega⟩, D1_⟩
       ·
        rw [if_neg c7] at H
        have c7b0 : (Op.bytesLess ((rdOf ByteArray.empty l0 (ji4)).toList) ((rdOf ByteArray.empty l0 x3_1).toList)) = false := by simpa using c7
        have c7b8 := bl_ge c7b0
        clear c7
        obtain rfl := Option.some.inj H
        have p123 : 0 ≤ (x3_1 : Int) := oA_
        have q123 : x3_1 < (l0.length : Int) := oA_
        obtain ⟨ad123, e123, hx123_0⟩ := Kd.at_string HR0.out x3_1 p123 q123
        cases e123
        replace p123 := eq_true p123
        replace q123 := eq_true q123
        have p124 : 0 ≤ ((ji4) : Int) := oA_
        have q124 : (ji4) < (l0.length : Int) := oA_
        obtain ⟨ad124, e124, hx124_0⟩ := Kd.at_string HR0.out (ji4) p124 q124
        obtain rfl : ad123 = ad124 := (by injection e124)
        replace p124 := eq_true p124
        replace q124 := eq_true q124
        go_wp2
        repeat (go_quiet (fail); try go_wp2)
        go_ret
        exact ⟨by first | rfl | (rw [Int.tdiv_eq_ediv_of_nonneg (by assumption)]; rfl) | (simp; done) | (simp only [← hji4] <;> (first | rfl | simp)) | (simp [*]; done), D1_⟩
      ·
       rw [if_neg c6] at H
       exact absurd H (by simp)
     ·
      rw [if_neg c5] at H
      exact absurd H (by simp)
    ·
     rw [if_neg c3] at H
     exact absurd H (by simp)
   ·
    rw [if_neg c2] at H
    have c2b0 : decide (x3_1 < (l0.length : Int)) = false := decide_eq_false c2
    clear c2
    obtain rfl := Option.some.inj H
    go_wp2
    repeat (go_quiet (fail); try go_wp2)
    go_ret
    exact ⟨E2_, D1_⟩

/-! ### sign_Lower: function 43, by hand -/
/-! A row of bytes that a conversion has laid, and that is written then -/
structure RowB (n : Nat) (l : List UInt8) (W : World) : Prop where
 cell : ∀ j (hj : j < l.length), W.cell? ⟨n, j, none⟩ = some (.int .u8 (l[j].toNat : Int))
 froz : ∀ j, j < l.length → W.frozen? ⟨n, j, none⟩ = false
theorem RowB.set {n : Nat} {l : List UInt8} {W : World} (h : RowB n l W) (i : Nat) (hi : i < l.length) (x : Int) (h0 : 0 ≤ x) (h1 : x ≤ 255) : RowB n (l.set i (UInt8.ofNat x.toNat)) (W.setCell ⟨n, i, none⟩ (.int .u8 x)) := by
 constructor
 ·
  intro j hj0
  have hj : j < l.length := by rwa [List.length_set] at hj0
  obtain ⟨b, rfl⟩ := Int.eq_ofNat_of_zero_le h0
  rw [List.getElem_set]
  by_cases he : i = j
  ·
   subst he
   rw [if_pos rfl]
   rw [World.cell?_setCell_same (v := .int .u8 (b : Int)) (h := h.cell i hi)]
   have : b < 256 := by omega
   simp
   omega
  ·
   rw [if_neg he]
   rw [World.cell?_setCell_other (w := W) (v := .int .u8 (b : Int)) (a := ⟨n, i, none⟩) (b := ⟨n, j, none⟩) (h := by intro hh; exact he (by simpa using congrArg Addr.off hh))]
   exact h.cell j hj
 ·
  intro j hj
  rw [List.length_set] at hj
  rw [World.frozen?_setCell]
  exact h.froz j hj
def capB (s : ByteArray) (W : World) : Nat := grownCap W s.size 0 5
def bytesW (s : ByteArray) (W : World) : World := W.drew.alloc (.cells (bytesRow s (capB s W)) 5 ((bytesRow s (capB s W)).size, (bytesRow s (capB s W)).size + 1))
theorem run_bytesW (s : ByteArray) (W : World) : (convert 9 68 (.string s)).run Tryd.prog W = .ok (.slice (some ⟨W.heap.size, 0, none⟩) s.size (capB s W)) (bytesW s W) := run_bytes_of_string W 9 68 5 s Tryd.underlying9 Tryd.underlying68 Tryd.underlying5
theorem bytesW_row (s : ByteArray) (W : World) : RowB W.heap.size s.data.toList (bytesW s W) := by
 constructor
 ·
  intro j hj
  have hj' : j < s.size := by simpa using hj
  unfold bytesW
  have e := World.cell?_alloc_mark W.drew (bytesRow s (capB s W)) 5 ((bytesRow s (capB s W)).size, (bytesRow s (capB s W)).size + 1) j
  rw [show W.drew.heap.size = W.heap.size from rfl] at e
  rw [e, bytesRow_at s _ j (by simpa using hj)]
  rfl
 ·
  intro j hj
  have hj' : j < s.size := by simpa using hj
  unfold bytesW
  have e := World.frozen?_alloc_mark W.drew (bytesRow s (capB s W)) 5 (bytesRow s (capB s W)).size ((bytesRow s (capB s W)).size + 1) j
  have hs : j < (bytesRow s (capB s W)).size := by
   unfold bytesRow
   have : s.data.size = s.size := rfl
   simp
   omega
  rw [show W.drew.heap.size = W.heap.size from rfl] at e
  rw [e]
  simp
  omega
theorem bytesW_below (s : ByteArray) {w W : World} (h : Below w.heap.size w W) : Below w.heap.size w (bytesW s W) := by
 unfold bytesW
 exact (below_drew h).alloc (by have := h.size; simpa using this) _
theorem RowB.back {n : Nat} {l : List UInt8} {W : World} (h : RowB n l W) (m c : Nat) (hm : l.length = m) :
  (convert 68 9 (.slice (some ⟨n, 0, none⟩) m c)).run Tryd.prog W = .ok (.string ⟨l.toArray⟩) W := by
 subst hm
 exact run_convert_bytes_back (P := Tryd.prog) W 68 9 5 ⟨n, 0, none⟩ c l Tryd.underlying68 Tryd.underlying5 Tryd.underlying9 (fun j hj => by rw [add_plain]; exact h.cell j hj)
/-- A letter made small. -/
def lowU (c : UInt8) : UInt8 := if 65 ≤ c.toNat ∧ c.toNat ≤ 90 then UInt8.ofNat (c.toNat + 32) else c
def lowL (l : List UInt8) : List UInt8 := l.map lowU
def lowB (s : ByteArray) : ByteArray := ⟨(lowL s.data.toList).toArray⟩
def lowTo (l : List UInt8) (k : Nat) : List UInt8 := (l.take k).map lowU ++ l.drop k
theorem lowTo_len (l : List UInt8) (k : Nat) : (lowTo l k).length = l.length := by simp [lowTo]; omega
theorem lowTo_at (l : List UInt8) (k : Nat) (h : k < l.length) : (lowTo l k)[k]'(by rw [lowTo_len]; exact h) = l[k] := by
 have e : ((l.take k).map lowU).length = k := by simp; omega
 unfold lowTo
 have e2 : k - ((l.take k).map lowU).length = 0 := by omega
 rw [List.getElem_append_right (by omega)]
 simp only [e2, List.getElem_drop, Nat.add_zero]
theorem lowTo_succ (l : List UInt8) (k : Nat) (h : k < l.length) : lowTo l (k + 1) = (lowTo l k).set k (lowU l[k]) := by
 have e : ((l.take k).map lowU).length = k := by simp; omega
 unfold lowTo
 rw [List.set_append_right _ _ (by omega), e, Nat.sub_self, List.drop_eq_getElem_cons h, List.take_succ_eq_append_getElem h, sZ_, List.map_append, List.append_assoc]
 rfl
theorem lowTo_same (l : List UInt8) (k : Nat) (h : k < l.length) (hu : lowU l[k] = l[k]) : lowTo l (k + 1) = lowTo l k := by
 rw [lowTo_succ l k h, hu, ← lowTo_at l k h, List.set_getElem_self]
theorem lowTo_all (l : List UInt8) : lowTo l l.length = lowL l := by simp [lowTo, lowL]
def sign_Lower.f (a0 : ByteArray) : Option ByteArray := if a0.size ≤ 140737488351232 then some (lowB a0) else none
set_option maxHeartbeats 2000000 in
set_option maxRecDepth 100000 in
theorem sign_Lower.calls (a0 : ByteArray) (r : ByteArray) (w : World) (h : sign_Lower.f a0 = some r) :
  Calls Tryd.prog 43 #[.string a0] w fun e w' => e = .returned (.string r) ∧ Below w.heap.size w w' := by
 unfold sign_Lower.f at h
 by_cases hbig : a0.size ≤ 140737488351232
 case neg => rw [if_neg hbig] at h; cases h
 rw [if_pos hbig] at h
 obtain rfl := Option.some.inj h
 clear h
 have kb := run_bytesW a0
 have hsz : a0.size = a0.data.toList.length := by simp
 have HSZ := Aside0.mk hsz
 clear hsz
 go_enter Tryd.func43, Tryd.ntmps43
 go_wp2
 have hrow0 := bytesW_row a0 w
 have hbel0 := bytesW_below a0 (Below.refl w.heap.size w)
 generalize bytesW a0 w = w1 at *
 generalize capB a0 w = cp at *
 clear kb
 go_loopw [10] (fun i wr => ∃ k : Nat, k ≤ a0.size ∧ i = .int .i64 k ∧ Aside0 (RowB w.heap.size (lowTo a0.data.toList k) wr) ∧ Aside0 (Below w.heap.size w wr)) (fun i _ => a0.size - (intOf i).toNat)
 case atStart => exact ⟨0, Nat.zero_le _, rfl, ⟨by simpa [lowTo] using hrow0⟩, ⟨hbel0⟩⟩
 case round =>
  obtain ⟨k, hk, rfl, hrow, hbel⟩ := hrel
  by_cases hlt : k < a0.size
  ·
   have hl : k < a0.data.toList.length := by rw [← HSZ.out]; exact hlt
   have hll : k < (lowTo a0.data.toList k).length := by rw [lowTo_len]; exact hl
   have hcell := hrow.out.cell k hll
   have hfr := hrow.out.froz k hll
   rw [lowTo_at _ _ hl] at hcell
   obtain ⟨c, hc⟩ : ∃ c, c = a0.data.toList[k] := ⟨_, rfl⟩
   have HC := Aside0.mk hc
   rw [← hc] at hcell
   clear hc
   have hc255 : c.toNat < 256 := c.toNat_lt
   have hc0 : (0 : Int) ≤ (c.toNat : Int) := by omega
   have next : ∀ x : Int, 0 ≤ x → x ≤ 255 → UInt8.ofNat x.toNat = lowU c → RowB w.heap.size (lowTo a0.data.toList (k + 1)) (wr.setCell ⟨w.heap.size, k, none⟩ (.int .u8 x)) := by
    intro x h0 h1 hx
    rw [lowTo_succ _ _ hl, ← HC.out, ← hx]
    exact hrow.out.set k hll x h0 h1
   have stay : lowU c = c → RowB w.heap.size (lowTo a0.data.toList (k + 1)) wr := by
    intro hx
    rw [lowTo_same _ _ hl (by rw [← HC.out]; exact hx)]
    exact hrow.out
   have NX := Aside0.mk next
   have ST := Aside0.mk stay
   clear next stay
   have hbs : Aside0 (∀ x, Below w.heap.size w (wr.setCell ⟨w.heap.size, k, none⟩ x)) := ⟨fun x => hbel.out.setCell (Nat.le_refl _) x⟩
   obtain ⟨z, hz⟩ : ∃ z : Int, z = (c.toNat : Int) := ⟨_, rfl⟩
   rw [← hz] at hcell
   have p5 : ((0 : Int) ≤ (k : Int)) = True := eq_true (by omega)
   have q5 : ((k : Int) < (a0.size : Int)) = True := eq_true (by omega)
   have hw1 : wrap64 ((k : Int) + 1) = ((k + 1 : Nat) : Int) := by unfold wrap64; omega
   have hd : Aside0 (¬ (65 ≤ c.toNat ∧ c.toNat ≤ 90) → lowU c = c) := ⟨fun hn => by unfold lowU; rw [if_neg hn]⟩
   have hu : Aside0 (65 ≤ c.toNat ∧ c.toNat ≤ 90 → lowU c = UInt8.ofNat (c.toNat + 32)) := ⟨fun hn => by unfold lowU; rw [if_pos hn]⟩
   have HZ := Aside0.mk hz
   clear hc255 hc0 hz
   by_cases h1 : z ≥ 65
   ·
    have d1 : decide (z ≥ 65) = true := decide_eq_true h1
    by_cases h2 : z ≤ 90
    ·
     have d2 : decide (z ≤ 90) = true := decide_eq_true h2
     have hz2 := Aside0.mk (And.intro h1 h2)
     clear h1 h2
     go_wp2
     go_roundw
     case rel =>
      have hz := HZ.out
      obtain ⟨h1, h2⟩ := hz2.out
      refine ⟨k + 1, by omega, by simp, ⟨NX.out _ (by omega) (by omega) ?_⟩, ⟨hbs.out _⟩⟩
      rw [hu.out ⟨by omega, by omega⟩]
      congr 1
      omega
     case measure => simp [intOf]; omega
    ·
     have d2 : decide (z ≤ 90) = false := decide_eq_false h2
     have hn : Aside0 (¬ (65 ≤ c.toNat ∧ c.toNat ≤ 90)) := ⟨by have := HZ.out; omega⟩
     clear h1 h2
     go_wp2
     go_roundw
     case rel => exact ⟨k + 1, by omega, by simp, ⟨ST.out (hd.out hn.out)⟩, hbel⟩
     case measure => simp [intOf]; omega
   ·
    have d1 : decide (z ≥ 65) = false := decide_eq_false h1
    have hn : Aside0 (¬ (65 ≤ c.toNat ∧ c.toNat ≤ 90)) := ⟨by have := HZ.out; omega⟩
    clear h1
    go_wp2
    go_roundw
    case rel => exact ⟨k + 1, by omega, by simp, ⟨ST.out (hd.out hn.out)⟩, hbel⟩
    case measure => simp [intOf]; omega
  ·
   obtain rfl : k = a0.size := by omega
   have hrow' := hrow.out
   rw [HSZ.out, lowTo_all] at hrow'
   have hback := hrow'.back a0.size cp (by rw [HSZ.out]; simp [lowL])
   have q5 : ¬ ((a0.size : Int) < (a0.size : Int)) := by omega
   go_wp2
   go_ret
   exact ⟨rfl, hbel.out⟩

/-! ### strings_IndexByte: function 56, by hand -/
def strings_IndexByte.f (a0 : ByteArray) (a1 : Int) : Option Int := some (Lib.indexByte a0.data.toList a1.toNat.toUInt8)
theorem strings_IndexByte.calls (a0 : ByteArray) (a1 : Int) (r : Int) (w : World) (h : strings_IndexByte.f a0 a1 = some r) :
  Calls Tryd.prog 56 #[.string a0, .int .u8 a1] w fun e w' => e = .returned (.int .i64 r) ∧ Drawn0 w w' := by
 obtain rfl := Option.some.inj h
 exact (Tryd.strings_IndexByte a0 a1 w).mono fun e w' ⟨he, hw⟩ => ⟨he, by subst hw; exact Drawn0.refl _⟩

/-! ### sign_letter: function 76 -/
def sign_letter.f (a0 : Int) : Option (Bool) := if a0 ≥ 97 then (if a0 ≤ 122 then (some true) else (if a0 ≥ 65 then (if a0 ≤ 90 then (some true) else (if a0 ≥ 48 then (some (decide (a0 ≤ 57))) else (some false))) else (if a0 ≥ 48 then (some (decide (a0 ≤ 57))) else (some false)))) else (if a0 ≥ 65 then (if a0 ≤ 90 then (some true) else (if a0 ≥ 48 then (some (decide (a0 ≤ 57))) else (some false))) else (if a0 ≥ 48 then (some (decide (a0 ≤ 57))) else (some false)))
set_option maxHeartbeats 8000000 in
set_option maxRecDepth 100000 in
theorem sign_letter.calls (a0 : Int) (r : Bool) (w : World) (h : sign_letter.f a0 = some r) :
  Calls Tryd.prog 76 #[.int .u8 a0] w fun e w' => e = .returned (.bool r) ∧ Drawn0 w w' := by
 have H : (if a0 ≥ 97 then (if a0 ≤ 122 then (some true) else (if a0 ≥ 65 then (if a0 ≤ 90 then (some true) else (if a0 ≥ 48 then (some (decide (a0 ≤ 57))) else (some false))) else (if a0 ≥ 48 then (some (decide (a0 ≤ 57))) else (some false)))) else (if a0 ≥ 65 then (if a0 ≤ 90 then (some true) else (if a0 ≥ 48 then (some (decide (a0 ≤ 57))) else (some false))) else (if a0 ≥ 48 then (some (decide (a0 ≤ 57))) else (some false)))) = some r := h
 clear h
 by_cases c2 : a0 ≥ 97
 ·
  rw [if_pos c2] at H
  have c2b0 : decide (97 ≤ a0) = true := decide_eq_true c2
  clear c2
  by_cases c3 : a0 ≤ 122
  ·
   rw [if_pos c3] at H
   have c3b0 : decide (a0 ≤ 122) = true := decide_eq_true c3
   clear c3
   obtain rfl := Option.some.inj H
   go_enter Tryd.func76, Tryd.ntmps76
   go_wp2
   go_ret
   exact ⟨E2_, D1_⟩
  ·
   rw [if_neg c3] at H
   have c3b0 : decide (a0 ≤ 122) = false := decide_eq_false c3
   clear c3
   by_cases c4 : a0 ≥ 65
   ·
    rw [if_pos c4] at H
    have c4b0 : decide (65 ≤ a0) = true := decide_eq_true c4
    clear c4
    by_cases c5 : a0 ≤ 90
    ·
     rw [if_pos c5] at H
     have c5b0 : decide (a0 ≤ 90) = true := decide_eq_true c5
     clear c5
     obtain rfl := Option.some.inj H
     go_enter Tryd.func76, Tryd.ntmps76
     go_wp2
     go_ret
     exact ⟨E2_, D1_⟩
    ·
     rw [if_neg c5] at H
     have c5b0 : decide (a0 ≤ 90) = false := decide_eq_false c5
     clear c5
     by_cases c6 : a0 ≥ 48
     ·
      rw [if_pos c6] at H
      have c6b0 : decide (48 ≤ a0) = true := decide_eq_true c6
      clear c6
      obtain rfl := Option.some.inj H
      go_enter Tryd.func76, Tryd.ntmps76
      go_wp2
      go_ret
      exact ⟨E2_, D1_⟩
     ·
      rw [if_neg c6] at H
      have c6b0 : decide (48 ≤ a0) = false := decide_eq_false c6
      clear c6
      obtain rfl := Option.some.inj H
      go_enter Tryd.func76, Tryd.ntmps76
      go_wp2
      go_ret
      exact ⟨E2_, D1_⟩
   ·
    rw [if_neg c4] at H
    have c4b0 : decide (65 ≤ a0) = false := decide_eq_false c4
    clear c4
    by_cases c7 : a0 ≥ 48
    ·
     rw [if_pos c7] at H
     have c7b0 : decide (48 ≤ a0) = true := decide_eq_true c7
     clear c7
     obtain rfl := Option.some.inj H
     go_enter Tryd.func76, Tryd.ntmps76
     go_wp2
     go_ret
     exact ⟨E2_, D1_⟩
    ·
     rw [if_neg c7] at H
     have c7b0 : decide (48 ≤ a0) = false := decide_eq_false c7
     clear c7
     obtain rfl := Option.some.inj H
     go_enter Tryd.func76, Tryd.ntmps76
     go_wp2
     go_ret
     exact ⟨E2_, D1_⟩
 ·
  rw [if_neg c2] at H
  have c2b0 : decide (97 ≤ a0) = false := decide_eq_false c2
  clear c2
  by_cases c8 : a0 ≥ 65
  ·
   rw [if_pos c8] at H
   have c8b0 : decide (65 ≤ a0) = true := decide_eq_true c8
   clear c8
   by_cases c9 : a0 ≤ 90
   ·
    rw [if_pos c9] at H
    have c9b0 : decide (a0 ≤ 90) = true := decide_eq_true c9
    clear c9
    obtain rfl := Option.some.inj H
    go_enter Tryd.func76, Tryd.ntmps76
    go_wp2
    go_ret
    exact ⟨E2_, D1_⟩
   ·
    rw [if_neg c9] at H
    have c9b0 : decide (a0 ≤ 90) = false := decide_eq_false c9
    clear c9
    by_cases c10 : a0 ≥ 48
    ·
     rw [if_pos c10] at H
     have c10b0 : decide (48 ≤ a0) = true := decide_eq_true c10
     clear c10
     obtain rfl := Option.some.inj H
     go_enter Tryd.func76, Tryd.ntmps76
     go_wp2
     go_ret
     exact ⟨E2_, D1_⟩
    ·
     rw [if_neg c10] at H
     have c10b0 : decide (48 ≤ a0) = false := decide_eq_false c10
     clear c10
     obtain rfl := Option.some.inj H
     go_enter Tryd.func76, Tryd.ntmps76
     go_wp2
     go_ret
     exact ⟨E2_, D1_⟩
  ·
   rw [if_neg c8] at H
   have c8b0 : decide (65 ≤ a0) = false := decide_eq_false c8
   clear c8
   by_cases c11 : a0 ≥ 48
   ·
    rw [if_pos c11] at H
    have c11b0 : decide (48 ≤ a0) = true := decide_eq_true c11
    clear c11
    obtain rfl := Option.some.inj H
    go_enter Tryd.func76, Tryd.ntmps76
    go_wp2
    go_ret
    exact ⟨E2_, D1_⟩
   ·
    rw [if_neg c11] at H
    have c11b0 : decide (48 ≤ a0) = false := decide_eq_false c11
    clear c11
    obtain rfl := Option.some.inj H
    go_enter Tryd.func76, Tryd.ntmps76
    go_wp2
    go_ret
    exact ⟨E2_, D1_⟩

end Go.Proofs.YtfcifigemiafgaaDoor.PAll
