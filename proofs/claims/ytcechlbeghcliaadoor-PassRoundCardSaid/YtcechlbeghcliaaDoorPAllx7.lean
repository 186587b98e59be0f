-- Text by a program of this session, over what print.py prints.
import Derived.Test.YtcechlbeghcliaaDoorPAllx0
import Derived.Test.YtcechlbeghcliaaDoorPAllx2
import Derived.Test.YtcechlbeghcliaaDoorPAllx3
import Derived.Test.YtcechlbeghcliaaDoorPAllx4
import Derived.Test.YtcechlbeghcliaaDoorPAllx6
namespace Go.Proofs.YtcechlbeghcliaaDoor.PAll
open Go.RowKit Go.Proofs.YtcechlbeghcliaaDoorW.PrintWords Go.Proofs.YtcechlbeghcliaaDoorW.PrintLast Go.Proofs.YtcechlbeghcliaaDoorW.PrintMore
attribute [local go_sem] max2_int min2_int max_two min_two max_three min_three max_four min_four   -- for this text's walks alone
set_option linter.unusedVariables false
set_option linter.unusedSimpArgs false

/-! ### strings_TrimPrefix: function 54 -/
def strings_TrimPrefix.f (a0 : ByteArray) (a1 : ByteArray) : Option (ByteArray) := (stringslite_TrimPrefix.f a0 a1).bind fun t228 => (some t228)
set_option maxHeartbeats 8000000 in
set_option maxRecDepth 100000 in
theorem strings_TrimPrefix.calls (a0 : ByteArray) (a1 : ByteArray) (r : ByteArray) (w : World) (h : strings_TrimPrefix.f a0 a1 = some r) :
    Calls Tryd.prog 54 #[.string a0, .string a1] w fun e w' => e = .returned (.string r) ∧ Drawn0 w w' := by
  have H : ((stringslite_TrimPrefix.f a0 a1).bind fun t228 => (some t228)) = some r := h
  clear h
  replace H := Option.bind_eq_some_iff.mp H
  obtain ⟨t228, A30, H⟩ := H
  replace H : (some t228) = some r := H
  have A3 := Aside0.mk A30
  clear A30
  obtain rfl := Option.some.inj H
  go_enter Tryd.func54, Tryd.ntmps54
  go_wp2_with (first | ((with_reducible refine gate_callee (f := 69) rfl ?_); refine goesL_ (some 7) rfl rfl Tryd.func69 (by kernel_rfl) rfl #[.string a0, .string a1] rfl (by (try simp only [List.map_toArray, List.map_cons, List.map_nil]); first | done | rfl | (simp only [List.length_drop, List.length_take]; rfl)) ?_; (with_reducible refine (stringslite_TrimPrefix.calls a0 a1 t228 _ A3.out).mono ?_); rintro e w' ⟨rfl, ⟨nd, rfl⟩⟩; refine ⟨_, rfl, ?_⟩))
  go_ret
  exact ⟨by first | rfl | (simp; done) | (simp [*]; done) | (generalize ByteArray.toList _ = l_; cases l_ <;> rfl), by repeat (first | exact Drawn0.refl _ | apply Drawn0.step)⟩

-- NOT PRINTED: function 53 (pass_Good_1)

/-! ### pass_Good: function 28, by hand -/
-- over 13 14 52 49 50 54 44
def weakB : ByteArray := ⟨#[87, 47]⟩
def bareB (s : ByteArray) : ByteArray := ⟨(Lib.trimPrefix s.data.toList weakB.data.toList).toArray⟩
def goodB (t e : ByteArray) : Bool := (e.toList == ([42] : List UInt8)) || ((t.toList != ([] : List UInt8)) && ((bareB e).toList == (bareB t).toList))
set_option maxHeartbeats 4000000 in
theorem Good1_calls (e t : ByteArray) (B : Nat) (W : World) (hc : W.cell? ⟨B, 0, none⟩ = some (.string t)) :
    Calls Tryd.prog 53 #[.string e, .pointer (some ⟨B, 0, none⟩)] W fun e' w' => e' = .returned (.bool (goodB t e)) ∧ Below W.heap.size W w' := by
  have C1 : ∀ W, Calls Tryd.prog 54 #[.string e, .string ⟨#[87, 47]⟩] W fun e' w' => e' = .returned (.string (bareB e)) ∧ Drawn0 W w' := fun W => (Tryd.strings_TrimPrefix e ⟨#[87, 47]⟩ W).mono fun _ _ ⟨he, hw⟩ => ⟨he, by subst hw; exact Drawn0.refl _⟩
  have C2 : ∀ W, Calls Tryd.prog 54 #[.string t, .string ⟨#[87, 47]⟩] W fun e' w' => e' = .returned (.string (bareB t)) ∧ Drawn0 W w' := fun W => (Tryd.strings_TrimPrefix t ⟨#[87, 47]⟩ W).mono fun _ _ ⟨he, hw⟩ => ⟨he, by subst hw; exact Drawn0.refl _⟩
  unfold goodB
  generalize bareB e = x1 at *
  generalize bareB t = x2 at *
  have HC1 := Aside0.mk C1
  have HC2 := Aside0.mk C2
  clear C1 C2
  cases h1 : (e.toList == ([42] : List UInt8)) with
  | true =>
    go_enter Tryd.func53, Tryd.ntmps53
    go_wp2
    repeat (go_quiet (fail); try go_wp2)
    go_ret
    exact ⟨rfl, by repeat (first | exact Below.refl _ _ | apply pw_below_drewN | apply below_drew1)⟩
  | false =>
    cases h2 : (t.toList != ([] : List UInt8)) with
    | false =>
      have h3 : t.toList.isEmpty = true := by have h_ := h2; revert h_; generalize t.toList = l_; cases l_ <;> simp
      go_enter Tryd.func53, Tryd.ntmps53
      go_wp2
      repeat (go_quiet (fail); try go_wp2)
      go_ret
      exact ⟨rfl, by repeat (first | exact Below.refl _ _ | apply pw_below_drewN | apply below_drew1)⟩
    | true =>
      have h3 : t.toList.isEmpty = false := by have h_ := h2; revert h_; generalize t.toList = l_; cases l_ <;> simp
      go_enter Tryd.func53, Tryd.ntmps53
      go_wp2_with (first | (go_at_call 54; (with_reducible refine (HC1.out _).mono ?_); rintro e' w' ⟨rfl, ⟨nd, rfl⟩⟩; (try first | exact ⟨rfl, _, World.drewN_drewN _ _ _⟩ | exact ⟨rfl, _, Eq.trans (World.drewN_drewN _ _ _) (congrArg (World.drewN _) (Nat.add_assoc _ _ _))⟩)) | (go_at_call 54; (with_reducible refine (HC2.out _).mono ?_); rintro e' w' ⟨rfl, ⟨nd, rfl⟩⟩; (try first | exact ⟨rfl, _, World.drewN_drewN _ _ _⟩ | exact ⟨rfl, _, Eq.trans (World.drewN_drewN _ _ _) (congrArg (World.drewN _) (Nat.add_assoc _ _ _))⟩)))
      repeat (go_quiet (first | (go_at_call 54; (with_reducible refine (HC1.out _).mono ?_); rintro e' w' ⟨rfl, ⟨nd, rfl⟩⟩; (try first | exact ⟨rfl, _, World.drewN_drewN _ _ _⟩ | exact ⟨rfl, _, Eq.trans (World.drewN_drewN _ _ _) (congrArg (World.drewN _) (Nat.add_assoc _ _ _))⟩)) | (go_at_call 54; (with_reducible refine (HC2.out _).mono ?_); rintro e' w' ⟨rfl, ⟨nd, rfl⟩⟩; (try first | exact ⟨rfl, _, World.drewN_drewN _ _ _⟩ | exact ⟨rfl, _, Eq.trans (World.drewN_drewN _ _ _) (congrArg (World.drewN _) (Nat.add_assoc _ _ _))⟩))); try go_wp2_with (first | (go_at_call 54; (with_reducible refine (HC1.out _).mono ?_); rintro e' w' ⟨rfl, ⟨nd, rfl⟩⟩; (try first | exact ⟨rfl, _, World.drewN_drewN _ _ _⟩ | exact ⟨rfl, _, Eq.trans (World.drewN_drewN _ _ _) (congrArg (World.drewN _) (Nat.add_assoc _ _ _))⟩)) | (go_at_call 54; (with_reducible refine (HC2.out _).mono ?_); rintro e' w' ⟨rfl, ⟨nd, rfl⟩⟩; (try first | exact ⟨rfl, _, World.drewN_drewN _ _ _⟩ | exact ⟨rfl, _, Eq.trans (World.drewN_drewN _ _ _) (congrArg (World.drewN _) (Nat.add_assoc _ _ _))⟩))))
      go_ret
      exact ⟨rfl, by repeat (first | exact Below.refl _ _ | apply pw_below_drewN | apply below_drew1)⟩
def inmB : ByteArray := ⟨#[73, 102, 45, 78, 111, 110, 101, 45, 77, 97, 116, 99, 104]⟩
def imsB : ByteArray := ⟨#[73, 102, 45, 77, 111, 100, 105, 102, 105, 101, 100, 45, 83, 105, 110, 99, 101]⟩
def lamB : ByteArray := ⟨#[76, 97, 115, 116, 45, 77, 111, 100, 105, 102, 105, 101, 100]⟩
def goodF (k : Nat) (l0 l1 : List S49) : Option Bool := (pass_tag.f k l1).bind fun t => (field_List_Elements.f k l0 inmB).bind fun es => if es.length ≤ 1000000 then some (es.any (goodB t)) else none
def goodD (k : Nat) (l0 l1 : List S49) : Option Bool := (pass_dated.f k l0 imsB).bind fun a => (pass_dated.f k l1 lamB).bind fun b => some (a.2 && (b.2 && decide (b.1 ≤ a.1)))
def pass_Good.f (k : Nat) (l0 l1 : List S49) : Option Bool := (field_List_Get.f k l0 inmB).bind fun g => if g.2 = true then goodF k l0 l1 else goodD k l0 l1
theorem pass_Good.mono : ∀ l0 l1 k, LeO (pass_Good.f k l0 l1) (pass_Good.f (k + 1) l0 l1) := by
  intro l0 l1 k
  unfold pass_Good.f goodF goodD
  refine LeO.bind (field_List_Get.mono _ _ _) (fun g => ?_)
  split
  · exact LeO.bind (pass_tag.mono _ _) (fun _ => LeO.bind (field_List_Elements.mono _ _ _) (fun _ => LeO.refl _))
  · exact LeO.bind (pass_dated.mono _ _ _) (fun _ => LeO.bind (pass_dated.mono _ _ _) (fun _ => LeO.refl _))
set_option maxHeartbeats 2000000 in
set_option maxRecDepth 100000 in
theorem pass_Good.calls (k : Nat) (A0 : Option Addr) (c0 : Nat) (l0 : List S49) (A1 : Option Addr) (c1 : Nat) (l1 : List S49) (r : Bool) (w : World) (hr0 : Kd.C k49 w A0 l0.length l0) (hc0 : l0.length ≤ c0) (hr1 : Kd.C k49 w A1 l1.length l1) (hc1 : l1.length ≤ c1) (hrW : WF w) (h : pass_Good.f k l0 l1 = some r) :
    Calls Tryd.prog 28 #[.slice A0 l0.length c0, .slice A1 l1.length c1] w fun e w' => e = .returned (.bool r) ∧ Below w.heap.size w w' := by
  unfold pass_Good.f at h
  obtain ⟨⟨s, ok⟩, hg, h⟩ := Option.bind_eq_some_iff.mp h
  have G := field_List_Get.calls k A0 c0 l0 inmB s ok w hr0 hc0 hg
  unfold inmB at G
  cases ok with
  | true =>
    have h' : goodF k l0 l1 = some r := h
    clear h hg
    unfold goodF at h'
    obtain ⟨t, ht, h'⟩ := Option.bind_eq_some_iff.mp h'
    obtain ⟨es, he, h'⟩ := Option.bind_eq_some_iff.mp h'
    by_cases hok : es.length ≤ 1000000
    case neg => rw [if_neg hok] at h'; cases h'
    rw [if_pos hok] at h'
    obtain rfl := Option.some.inj h'
    clear h'
    have T : ∀ W, Below w.heap.size w W → Calls Tryd.prog 49 #[.slice A1 l1.length c1] W fun e w' => e = .returned (.string t) ∧ Below W.heap.size W w' := fun W hb => pass_tag.calls k A1 c1 l1 t W (Kd.C_below hr1 hb) hc1 ht
    have E : ∀ W, Below w.heap.size w W → Calls Tryd.prog 13 #[.slice A0 l0.length c0, .string ⟨#[73, 102, 45, 78, 111, 110, 101, 45, 77, 97, 116, 99, 104]⟩] W fun e w' => ∃ v0_ : Value, e = .returned (v0_) ∧ Kd.R Kd.string 9 w' W.heap.size (fun _ => True) v0_ es ∧ Below W.heap.size W w' := fun W hb => field_List_Elements.calls k A0 c0 l0 _ es W (Kd.C_below hr0 hb) hc0 he
    have eg : ∀ args w, (callFunc 53 args).run Tryd.prog w = .ok (.enter 53 args) w := enters_of Tryd.func53 (by kernel_rfl) rfl
    have C : ∀ (A : Option Addr) (c B : Nat) (W : World), W.cell? ⟨B, 0, none⟩ = some (.string t) → Kd.C Kd.string W A es.length es → es.length ≤ c → Calls Tryd.prog 52 #[.slice A es.length c, .func (.func 53) #[] #[.pointer (some ⟨B, 0, none⟩)]] W fun e w' => e = .returned (.bool (es.any (goodB t))) ∧ Below W.heap.size W w' :=
      fun A c B W hB hC hc => ContainsFunc_string (goodB t) 53 #[.pointer (some ⟨B, 0, none⟩)] eg A c es W (fun W' x hx hb' => Good1_calls x t B W' (pw_cell_below hb' hB)) hC hc (by omega)
    have HT := Aside0.mk T
    have HE := Aside0.mk E
    have HC := Aside0.mk C
    clear T E C hr0 hr1 ht he hrW
    generalize es.any (goodB t) = z at *
    go_enter Tryd.func28, Tryd.ntmps28
    go_wp2_with (first | (go_at_call 14; (with_reducible refine G.mono ?_); rintro e w1 ⟨rfl, hb1⟩; have HB1 := Aside0.mk hb1; clear hb1) | (go_at_call 49; (with_reducible refine (HT.out w1 HB1.out).mono ?_); rintro e w2 ⟨rfl, hb2⟩; have HB2 := Aside0.mk (below_then HB1.out HB1.out.size hb2); clear hb2) | (go_at_call 13; refine (HE.out _ ((HB2.out).alloc HB2.out.size _)).mono ?_; rintro e w3 ⟨v1, rfl, hv1, hb3⟩; obtain ⟨A, c, rfl, hlc, hC⟩ := Kd.R_reads hv1; have HB3 := Aside0.mk hb3; have HV := Aside0.mk hC; have HL := Aside0.mk hlc; have hcell : w3.cell? ⟨w2.heap.size, 0, none⟩ = some (.string t) := pw_cell_below hb3 (by simp); clear hv1 hb3 hC hlc) | (go_at_call 52; refine (HC.out A c _ w3 hcell HV.out HL.out).mono ?_; rintro e w4 ⟨rfl, hb4⟩))
    go_ret
    have hb := (HB2.out).alloc HB2.out.size (.cells #[.string t] 9)
    have hb3 := below_then hb hb.size HB3.out
    exact ⟨rfl, below_then hb3 hb3.size hb4⟩
  | false =>
    have h' : goodD k l0 l1 = some r := h
    clear h hg
    unfold goodD at h'
    obtain ⟨⟨a1, a2⟩, ha, h'⟩ := Option.bind_eq_some_iff.mp h'
    obtain ⟨⟨b1, b2⟩, hb, h'⟩ := Option.bind_eq_some_iff.mp h'
    have hr := Option.some.inj h'
    simp only at hr
    clear h'
    have D1 : ∀ W, Below w.heap.size w W → Calls Tryd.prog 50 #[.slice A0 l0.length c0, .string ⟨#[73, 102, 45, 77, 111, 100, 105, 102, 105, 101, 100, 45, 83, 105, 110, 99, 101]⟩] W fun e w' => e = .returned (.tuple #[.int .i64 a1, .bool a2]) ∧ Below W.heap.size W w' := fun W hb => pass_dated.calls k A0 c0 l0 _ a1 a2 W (Kd.C_below hr0 hb) hc0 (hrW.below hb) ha
    have D2 : ∀ W, Below w.heap.size w W → Calls Tryd.prog 50 #[.slice A1 l1.length c1, .string ⟨#[76, 97, 115, 116, 45, 77, 111, 100, 105, 102, 105, 101, 100]⟩] W fun e w' => e = .returned (.tuple #[.int .i64 b1, .bool b2]) ∧ Below W.heap.size W w' := fun W hb' => pass_dated.calls k A1 c1 l1 _ b1 b2 W (Kd.C_below hr1 hb') hc1 (hrW.below hb') hb
    have HD1 := Aside0.mk D1
    have HD2 := Aside0.mk D2
    have HR := Aside0.mk hr
    clear D1 D2 hr0 hr1 ha hb hrW hr
    have hr := HR.out
    clear HR
    cases a2 with
    | false =>
      obtain rfl : false = r := hr
      go_enter Tryd.func28, Tryd.ntmps28
      go_wp2_with (first | (go_at_call 14; (with_reducible refine G.mono ?_); rintro e w1 ⟨rfl, hb1⟩; have HB1 := Aside0.mk hb1; clear hb1) | (go_at_call 50; (with_reducible refine (HD1.out w1 HB1.out).mono ?_); rintro e w2 ⟨rfl, hb2⟩; have HB2 := Aside0.mk (below_then HB1.out HB1.out.size hb2); clear hb2 HD1) | (go_at_call 50; (with_reducible refine (HD2.out w2 HB2.out).mono ?_); rintro e w3 ⟨rfl, hb3⟩; have HB3 := Aside0.mk (below_then HB2.out HB2.out.size hb3); clear hb3))
      go_ret
      exact ⟨rfl, HB3.out⟩
    | true =>
      cases b2 with
      | false =>
        obtain rfl : false = r := hr
        go_enter Tryd.func28, Tryd.ntmps28
        go_wp2_with (first | (go_at_call 14; (with_reducible refine G.mono ?_); rintro e w1 ⟨rfl, hb1⟩; have HB1 := Aside0.mk hb1; clear hb1) | (go_at_call 50; (with_reducible refine (HD1.out w1 HB1.out).mono ?_); rintro e w2 ⟨rfl, hb2⟩; have HB2 := Aside0.mk (below_then HB1.out HB1.out.size hb2); clear hb2 HD1) | (go_at_call 50; (with_reducible refine (HD2.out w2 HB2.out).mono ?_); rintro e w3 ⟨rfl, hb3⟩; have HB3 := Aside0.mk (below_then HB2.out HB2.out.size hb3); clear hb3))
        go_ret
        exact ⟨rfl, HB3.out⟩
      | true =>
        obtain rfl : decide (b1 ≤ a1) = r := hr
        go_enter Tryd.func28, Tryd.ntmps28
        go_wp2_with (first | (go_at_call 14; (with_reducible refine G.mono ?_); rintro e w1 ⟨rfl, hb1⟩; have HB1 := Aside0.mk hb1; clear hb1) | (go_at_call 50; (with_reducible refine (HD1.out w1 HB1.out).mono ?_); rintro e w2 ⟨rfl, hb2⟩; have HB2 := Aside0.mk (below_then HB1.out HB1.out.size hb2); clear hb2 HD1) | (go_at_call 50; (with_reducible refine (HD2.out w2 HB2.out).mono ?_); rintro e w3 ⟨rfl, hb3⟩; have HB3 := Aside0.mk (below_then HB2.out HB2.out.size hb3); clear hb3))
        go_ret
        exact ⟨rfl, HB3.out⟩

end Go.Proofs.YtcechlbeghcliaaDoor.PAll
