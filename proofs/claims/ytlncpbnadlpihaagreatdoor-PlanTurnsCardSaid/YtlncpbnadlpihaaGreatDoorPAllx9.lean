import Derived.Test.YtlncpbnadlpihaaGreatDoorPAllx0
import Derived.Test.YtlncpbnadlpihaaGreatDoorPAllx8
namespace Go.Proofs.YtlncpbnadlpihaaGreatDoor.PAll
open Go.RowKit Go.Proofs.YtlncpbnadlpihaaGreatDoorW.PrintWords Go.Proofs.YtlncpbnadlpihaaGreatDoorW.PrintLast Go.Proofs.YtlncpbnadlpihaaGreatDoorW.PrintMore
attribute [local go_sem] max2_int min2_int max_two min_two max_three min_three max_four min_four   -- for this text's walks alone
set_option linter.unusedVariables false
set_option linter.unusedSimpArgs false

/-! ### conf_reader_must: function 60, by hand -/
-- over 61
structure RS where
 ws : List WD
 code : Int
 line : Int
def RS.next (s : RS) : ByteArray := nextV s.ws s.code
def RS.fail (s : RS) (e : Int) : RS := ⟨s.ws, failC s.code e, failL s.ws s.code s.line⟩
def RS.take (s : RS) : RS := ⟨takeW s.ws s.code, s.code, s.line⟩
def RS.must (s : RS) (t : ByteArray) : RS := (if s.next.toList = t.toList then s else s.fail 30).take
/-- A reader in memory. -/
def RdS (w0 w : World) (g : Nat) (s : RS) : Prop := RdI w0 w g s.ws s.code s.line ∧ s.ws ≠ [] ∧ Below w0.heap.size w0 w ∧ w0.heap.size ≤ g
theorem rs_next (w0 w : World) (g : Nat) (s : RS) (h : RdS w0 w g s) : Calls Tryz.prog 58 #[.pointer (some ⟨g, 0, none⟩)] w fun e w' => e = .returned (.string s.next) ∧ w = w' :=
 next_calls w0 w g s.ws s.code s.line h.1 h.2.2.1 h.2.1
theorem rs_fail (w0 w : World) (g : Nat) (s : RS) (er : Int) (h : RdS w0 w g s) : Calls Tryz.prog 59 #[.pointer (some ⟨g, 0, none⟩), .int .i64 er] w fun e w' => e = .returned (.tuple #[]) ∧ RdS w0 w' g (s.fail er) ∧ Kept w w' (fun k => k = g) :=
 (fail_calls w0 w g s.ws s.code s.line er h.1 h.2.2.1 h.2.2.2 h.2.1).mono fun _ _ ⟨he, h1, h2, h3⟩ => ⟨he, ⟨h1, h.2.1, h3, h.2.2.2⟩, h2⟩
theorem rs_take (w0 w : World) (g : Nat) (s : RS) (h : RdS w0 w g s) : Calls Tryz.prog 61 #[.pointer (some ⟨g, 0, none⟩)] w fun e w' => e = .returned (.tuple #[]) ∧ RdS w0 w' g s.take ∧ Kept w w' (fun k => k = g) :=
 (take_calls w0 w g s.ws s.code s.line h.1 h.2.2.1 h.2.2.2).mono fun _ _ ⟨he, h1, h2, h3⟩ => ⟨he, ⟨h1, takeW_ne _ h.2.1, h3, h.2.2.2⟩, h2⟩
set_option maxHeartbeats 1000000 in
set_option maxRecDepth 100000 in
theorem rs_must (w0 w : World) (g : Nat) (s : RS) (t : ByteArray) (h : RdS w0 w g s) : Calls Tryz.prog 60 #[.pointer (some ⟨g, 0, none⟩), .string t] w fun e w' => e = .returned (.tuple #[]) ∧ RdS w0 w' g (s.must t) ∧ Kept w w' (fun k => k = g) := by
 have CN := rs_next w0 w g s h
 by_cases ht : s.next.toList = t.toList
 ·
  have HM := Aside0.mk (show s.must t = s.take from by unfold RS.must; rw [if_pos ht])
  have q0 : (s.next.toList == t.toList) = true := beq_iff_eq.mpr ht
  have q1 : (s.next.toList != t.toList) = false := bne_eq_false_iff_eq.mpr ht
  have CT := Aside0.mk (rs_take w0 w g s h)
  clear ht
  go_enter Tryz.func60, Tryz.ntmps60
  go_wp2_with (first | (go_at_call 58; refine CN.mono ?_; rintro e w' ⟨rfl, rfl⟩) | (go_at_call 61; refine CT.out.mono ?_; rintro e w1 ⟨rfl, h1, k1⟩))
  go_end0
  exact ⟨rfl, by rw [HM.out]; exact h1, k1⟩
 ·
  have HM := Aside0.mk (show s.must t = (s.fail 30).take from by unfold RS.must; rw [if_neg ht])
  have q0 : (s.next.toList == t.toList) = false := beq_eq_false_iff_ne.mpr ht
  have q1 : (s.next.toList != t.toList) = true := bne_iff_ne.mpr ht
  have CF := Aside0.mk (rs_fail w0 w g s 30 h)
  clear ht
  go_enter Tryz.func60, Tryz.ntmps60
  go_wp2_with (first | (go_at_call 58; refine CN.mono ?_; rintro e w' ⟨rfl, rfl⟩) | (go_at_call 59; refine CF.out.mono ?_; rintro e w1 ⟨rfl, h1, k1⟩))
  refine (rs_take w0 w1 g (s.fail 30) h1).mono ?_
  rintro e w2 ⟨rfl, h2, k2⟩
  go_wp2
  go_end0
  exact ⟨rfl, by rw [HM.out]; exact h2, Kept.trans_ k1 k2⟩

/-! ### strconv_lower: function 135 -/
def strconv_lower.f (a0 : Int) : Option (Int) := some (Go.bits .or .u8 a0 32)
set_option maxHeartbeats 8000000 in
set_option maxRecDepth 100000 in
theorem strconv_lower.calls (a0 : Int) (r : Int) (w : World) (h : strconv_lower.f a0 = some r) :
  Calls Tryz.prog 135 #[.int .u8 a0] w fun e w' => e = .returned (.int .u8 r) ∧ Drawn0 w w' := by
 have H : (some (Go.bits .or .u8 a0 32)) = some r := h
 clear h
 obtain rfl := Option.some.inj H
 go_enter Tryz.func135, Tryz.ntmps135
 go_wp2
 go_ret
 exact ⟨E2_, D1_⟩

end Go.Proofs.YtlncpbnadlpihaaGreatDoor.PAll
