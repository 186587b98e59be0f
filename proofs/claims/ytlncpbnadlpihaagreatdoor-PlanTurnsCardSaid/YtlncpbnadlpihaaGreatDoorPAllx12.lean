import Derived.Test.YtlncpbnadlpihaaGreatDoorPAllx0
import Derived.Test.YtlncpbnadlpihaaGreatDoorPAllx2
import Derived.Test.YtlncpbnadlpihaaGreatDoorPAllx8
import Derived.Test.YtlncpbnadlpihaaGreatDoorPAllx9
import Derived.Test.YtlncpbnadlpihaaGreatDoorPAllx11
namespace Go.Proofs.YtlncpbnadlpihaaGreatDoor.PAll
open Go.RowKit Go.Proofs.YtlncpbnadlpihaaGreatDoorW.PrintWords Go.Proofs.YtlncpbnadlpihaaGreatDoorW.PrintLast Go.Proofs.YtlncpbnadlpihaaGreatDoorW.PrintMore
attribute [local go_sem] max2_int min2_int max_two min_two max_three min_three max_four min_four   -- for this text's walks alone
set_option linter.unusedVariables false
set_option linter.unusedSimpArgs false

/-! ### conf_reader_rule: function 62, by hand -/
-- over 79
theorem R_ge {α : Type} {d : Kd α} {e base base' : Nat} {w : World} {ok ok' : Nat → Prop} {v : Value} {xs : List α} (h : Kd.R d e w base ok v xs) (hb : base' ≤ base) (h2 : ∀ k, base ≤ k → ok' k) : Kd.R d e w base' ok' v xs := Kd.R_lower (Kd.R_mono (Kd.R_bound h) (fun k hk => h2 k hk.2.1)) hb
/-- No word is greater than memory. -/
def RS.small (s : RS) : Prop := ∀ p, p ∈ s.ws → p.1.size ≤ 281474976710656
theorem RS.small_next {s : RS} (h : s.small) : s.next.size ≤ 281474976710656 := by
 unfold RS.next nextV
 split
 ·
  cases hw : s.ws with
  | nil => exact Nat.zero_le _
  | cons x r => exact h x (by rw [hw]; exact List.mem_cons_self)
 ·
  exact Nat.zero_le _
theorem RS.small_fail {s : RS} (h : s.small) (e : Int) : (s.fail e).small := h
theorem RS.small_take {s : RS} (h : s.small) : s.take.small := by
 intro p hp
 refine h p ?_
 have hp' : p ∈ takeW s.ws s.code := hp
 unfold takeW at hp'
 split at hp'
 ·
  split at hp'
  ·
   rename_i e
   rw [e]
   exact List.mem_cons_of_mem _ hp'
  ·
   exact hp'
 ·
  exact hp'
theorem RS.small_must {s : RS} (h : s.small) (t : ByteArray) : (s.must t).small := by
 unfold RS.must
 split
 ·
  exact RS.small_take h
 ·
  exact RS.small_take (RS.small_fail h _)
theorem RS.small_number {s : RS} (h : s.small) (n : Int) (ok : Bool) (lo hi : Int) : (s.number n ok lo hi).small := by
 unfold RS.number
 split
 ·
  exact RS.small_take (RS.small_fail h _)
 ·
  split
  ·
   exact RS.small_take (RS.small_fail h _)
  ·
   exact RS.small_take h
def semiB : ByteArray := ⟨#[59]⟩
def known (n : ByteArray) : Bool := (n.toList == ([111, 114, 105, 103, 105, 110] : List UInt8)) || (n.toList == ([116, 116, 108] : List UInt8)) || (n.toList == ([107, 101, 121] : List UInt8)) || (n.toList == ([107, 101, 101, 112] : List UInt8))
def RS.ruleA (s : RS) (seen : List ByteArray) : RS :=
 (if inB s.next seen = true then (if known s.next = true then s else s.fail 30).fail 31 else (if known s.next = true then s else s.fail 30)).take
def ruleB (k : Nat) (n : ByteArray) (s : RS) (x : S57) : Option (RS × S57) :=
 if n.toList = ([111, 114, 105, 103, 105, 110] : List UInt8) then (sign_Number.f k s.next).bind fun p => some (s.number p.1 p.2 1 9, { x with f1 := p.1 })
 else if n.toList = ([116, 116, 108] : List UInt8) then (sign_Number.f k s.next).bind fun p => (sign_Number.f k (s.number p.1 p.2 0 2147483648).next).bind fun p2 => some ((s.number p.1 p.2 0 2147483648).number p2.1 p2.2 p.1 2147483648, { x with f2 := p.1, f3 := p2.1 })
 else if n.toList = ([107, 101, 121] : List UInt8) then (keyF k s).bind fun r => some (r.1, { x with f4 := r.2.1, f6 := r.2.2 })
 else if n.toList = ([107, 101, 101, 112] : List UInt8) then (if s.next.toList = ([111, 110] : List UInt8) then some (s.take, { x with f5 := true }) else if s.next.toList = ([111, 102, 102] : List UInt8) then some (s.take, { x with f5 := false }) else some ((s.fail 30).take, { x with f5 := false }))
 else some (s, x)
def ruleF (k : Nat) (s : RS) (x : S57) (seen : List ByteArray) : Option (RS × S57 × List ByteArray) := (ruleB k s.next (s.ruleA seen) x).bind fun p => some (p.1.must semiB, p.2, s.next :: seen)
theorem keyF_mono (k : Nat) (s : RS) : LeO (keyF k s) (keyF (k + 1) s) := keyL_mono k _ _ _
theorem ruleB_mono (k : Nat) (n : ByteArray) (s : RS) (x : S57) : LeO (ruleB k n s x) (ruleB (k + 1) n s x) := by
 unfold ruleB
 repeat' (with_reducible first | exact sign_Number.mono _ _ | exact keyF_mono _ _ | exact lR_ | refine LeO.ite ?_ ?_ | refine LeO.bind ?_ (fun _ => ?_))
theorem ruleF_mono (k : Nat) (s : RS) (x : S57) (seen : List ByteArray) : LeO (ruleF k s x seen) (ruleF (k + 1) s x seen) := LeO.bind (ruleB_mono _ _ _ _) (fun _ => LeO.refl _)
/-- What a rule stands on: the reader (block g), the site (block sb), the map (block mb); the site's row is younger than W. -/
structure RuleI (w0 W : World) (g sb mb : Nat) (w : World) (s : RS) (x : S57) (v : Value) : Prop where
 rd : RdS w0 w g s
 site : SiteAt w sb x.f0 x.f1 x.f2 x.f3 x.f4 x.f5 v
 row : Kd.R Kd.string 9 w W.heap.size (fun k => W.heap.size ≤ k) v x.f6
 kept : Kept W w (fun i => i = g ∨ i = sb ∨ i = mb)
structure Apart (w0 W : World) (g sb mb : Nat) : Prop where
 gs : g ≠ sb
 gm : g ≠ mb
 sm : sb ≠ mb
 g_lt : g < W.heap.size
 s_lt : sb < W.heap.size
 m_lt : mb < W.heap.size
 s_ge : w0.heap.size ≤ sb
 m_ge : w0.heap.size ≤ mb
 wf : WF w0
theorem RuleI.gstep {w0 W : World} {g sb mb : Nat} {w w2 : World} {s s2 : RS} {x : S57} {v : Value} (h : RuleI w0 W g sb mb w s x v) (ha : Apart w0 W g sb mb) (h2 : RdS w0 w2 g s2) (hk : Kept w w2 (fun k => k = g)) : RuleI w0 W g sb mb w2 s2 x v :=
 ⟨h2, h.site.kept hk (fun e => ha.gs e.symm), R_kept h.row hk (fun k ho => by have := ha.g_lt; omega), Kept.trans_ h.kept (Kept.mono_ hk (fun k e => .inl e))⟩
theorem RuleI.mstep {w0 W : World} {g sb mb : Nat} {w w2 : World} {s : RS} {x : S57} {v : Value} (h : RuleI w0 W g sb mb w s x v) (ha : Apart w0 W g sb mb) (hk : Kept w w2 (fun k => k = mb)) (hb : Below w0.heap.size w0 w2) : RuleI w0 W g sb mb w2 s x v :=
 ⟨h.rd.kept hk ha.gm hb, h.site.kept hk ha.sm, R_kept h.row hk (fun k ho => by have := ha.m_lt; omega), Kept.trans_ h.kept (Kept.mono_ hk (fun k e => .inr (.inr e)))⟩
theorem RuleI.sstep {w0 W : World} {g sb mb : Nat} {w : World} {s : RS} {x y : S57} {v : Value} (h : RuleI w0 W g sb mb w s x v) (ha : Apart w0 W g sb mb) (i : Nat) (u : Value) (hs : SiteAt (w.setCell ⟨sb, i, none⟩ u) sb y.f0 y.f1 y.f2 y.f3 y.f4 y.f5 v) (hy : y.f6 = x.f6) : RuleI w0 W g sb mb (w.setCell ⟨sb, i, none⟩ u) s y v :=
 ⟨h.rd.kept (Kept.set_ w sb i u) ha.gs (h.rd.2.2.1.setCell ha.s_ge _), hs, by rw [hy]; exact R_kept h.row (Kept.set_ w sb i u) (fun k ho => by have := ha.s_lt; omega), Kept.trans_ h.kept (Kept.mono_ (Kept.set_ w sb i u) (fun k e => .inr (.inl e)))⟩
theorem RuleI.kstep {w0 W : World} {g sb mb : Nat} {w w2 : World} {s s2 : RS} {x y : S57} {v v2 : Value} {q : Bool} {hs : List ByteArray} (h : RuleI w0 W g sb mb w s x v) (ha : Apart w0 W g sb mb) (hk : KeyI w0 w g sb x.f0 x.f1 x.f2 x.f3 x.f5 w2 s2 q hs v2) (hy : y = { x with f4 := q, f6 := hs }) : RuleI w0 W g sb mb w2 s2 y v2 := by
 subst hy
 exact ⟨hk.rd, hk.site, R_ge hk.row h.kept.1 (fun k hle => Nat.le_trans h.kept.1 hle), Kept.trans_ h.kept (Kept.mono_ hk.kept (fun k e => e.elim .inl (fun e => .inr (.inl e))))⟩
theorem RuleI.wf {w0 W : World} {g sb mb : Nat} {w : World} {s : RS} {x : S57} {v : Value} (h : RuleI w0 W g sb mb w s x v) (ha : Apart w0 W g sb mb) : WF w := ha.wf.below h.rd.2.2.1
theorem SeenIs.gkept {w0 W : World} {g sb mb n : Nat} {w w2 : World} {seen : List ByteArray} (h : SeenIs w mb n seen) (ha : Apart w0 W g sb mb) (hk : Kept w w2 (fun k => k = g)) : SeenIs w2 mb n seen := h.kept hk (fun e => ha.gm e.symm)
theorem SeenIs.skept {w0 W : World} {g sb mb n : Nat} {w w2 : World} {seen : List ByteArray} (h : SeenIs w mb n seen) (ha : Apart w0 W g sb mb) (hk : Kept w w2 (fun k => k = g ∨ k = sb)) : SeenIs w2 mb n seen := h.kept hk (fun e => e.elim (fun e => ha.gm e.symm) (fun e => ha.sm e.symm))

set_option maxHeartbeats 4000000 in
set_option maxRecDepth 100000 in
theorem rule_originS (k : Nat) (w0 W w : World) (g sb mb n : Nat) (s : RS) (x : S57) (v : Value) (seen : List ByteArray) (hI : RuleI w0 W g sb mb w s x v) (hM : SeenIs w mb n seen) (ha : Apart w0 W g sb mb) (hsm : s.small) (hnb : n < 1000000) (hn : s.next.toList = ([111, 114, 105, 103, 105, 110] : List UInt8)) (hq : inB s.next seen = true) (n_ : Int) (ok_ : Bool) (hN1 : sign_Number.f k ((s.fail 31).take).next = some (n_, ok_)) :
  Calls Tryz.prog 62 #[.pointer (some ⟨g, 0, none⟩), .pointer (some ⟨sb, 0, none⟩), .map (some mb)] w fun e w' => e = .returned (.tuple #[]) ∧ ∃ v', RuleI w0 W g sb mb w' (((s.fail 31).take.number n_ ok_ 1 9).must semiB) { x with f1 := n_ } v' ∧ SeenIs w' mb (n + 1) (s.next :: seen) := by
 have HA := Aside0.mk ha
 have HSM := Aside0.mk hsm
 have HNB := Aside0.mk hnb
 clear ha hsm hnb
 have q0 : (s.next.toList == ([111, 114, 105, 103, 105, 110] : List UInt8)) = true := beq_iff_eq.mpr hn
 have q1 : (s.next.toList == ([116, 116, 108] : List UInt8)) = false := beq_eq_false_iff_ne.mpr (by rw [hn]; decide)
 have q2 : (s.next.toList == ([107, 101, 121] : List UInt8)) = false := beq_eq_false_iff_ne.mpr (by rw [hn]; decide)
 have q3 : (s.next.toList == ([107, 101, 101, 112] : List UInt8)) = false := beq_eq_false_iff_ne.mpr (by rw [hn]; decide)
 have q5 : inB s.next seen = true := hq
 clear hn hq
 have N1 := Aside0.mk hN1
 clear hN1
 have CN := Aside0.mk (rs_next w0 w g s hI.rd)
 have HSZ := Aside0.mk (RS.small_next HSM.out)
 obtain ⟨t, ht⟩ : ∃ t, t = s.next := ⟨_, rfl⟩
 rw [← ht] at q0 q1 q2 q3 q5 CN HSZ ⊢
 have HT := Aside0.mk ht
 clear ht
 go_enter Tryz.func62, Tryz.ntmps62
 go_wp2_with (first | (go_at_call 58; refine CN.out.mono ?_; rintro e _ ⟨rfl, rfl⟩) | (at_lookup; refine wpList_lookup_seen rfl _ _ 86 rfl Tryz.underlying86 mb n seen rfl hM t rfl (Nat.le_trans HSZ.out (by decide)) ?_; rw [q5]))
 refine (rs_fail w0 w g _ 31 hI.rd).mono ?_
 rintro e w2 ⟨rfl, h_, k_⟩
 have K2 := hI.gstep HA.out h_ k_
 have M2 := SeenIs.gkept hM HA.out k_
 clear hI hM h_ k_
 go_wp2_with ((at_mapUpdate; refine wpList_update_seen rfl _ _ _ 86 rfl Tryz.underlying86 mb n seen rfl M2 (Nat.lt_trans HNB.out (by decide)) t rfl rfl (Nat.le_trans HSZ.out (by decide)) ?_; intro w5 M5 k5_ g5_; have K5 := K2.mstep HA.out k5_ (grown_below K2.rd.2.2.1 g5_ HA.out.m_ge)))
 clear K2 M2 k5_ g5_
 refine (rs_take w0 w5 g _ K5.rd).mono ?_
 rintro e w6 ⟨rfl, h_, k_⟩
 have K6 := K5.gstep HA.out h_ k_
 have M6 := SeenIs.gkept M5 HA.out k_
 clear K5 M5 h_ k_
 have HS6 := Aside0.mk (RS.small_take (RS.small_fail HSM.out 31))
 go_wp2_with fail
 refine (rs_number w0 w6 g _ k n_ ok_ 1 9 K6.rd (K6.wf HA.out) (RS.small_next HS6.out) N1.out).mono ?_
 rintro e w7 ⟨rfl, h_, k_⟩
 have K7 := K6.gstep HA.out h_ k_
 have M7 := SeenIs.gkept M6 HA.out k_
 clear K6 M6 h_ k_
 have i1 := (blk_cell K7.site 1).trans rfl
 have f1 := blk_frozen K7.site 1
 go_wp2_with fail
 have K8 := K7.sstep (y := { x with f1 := n_ }) HA.out 1 (.int .i64 n_) (blk_put K7.site 1 _ rfl) rfl
 have M8 := SeenIs.kept M7 (Kept.set_ w7 sb 1 (.int .i64 n_)) (fun e => HA.out.sm e.symm)
 generalize w7.setCell ⟨sb, 1, none⟩ (.int .i64 n_) = w8 at *
 clear K7 M7 i1 f1
 have HW := Aside0.mk K8
 have HM := Aside0.mk M8
 clear M8
 refine (rs_must w0 w8 g _ semiB K8.rd).mono ?_
 rintro e w9 ⟨rfl, h_, k_⟩
 clear K8
 go_wp2
 go_end0
 exact ⟨rfl, _, HW.out.gstep HA.out h_ k_, SeenIs.gkept HM.out HA.out k_⟩

set_option maxHeartbeats 4000000 in
set_option maxRecDepth 100000 in
theorem rule_originN (k : Nat) (w0 W w : World) (g sb mb n : Nat) (s : RS) (x : S57) (v : Value) (seen : List ByteArray) (hI : RuleI w0 W g sb mb w s x v) (hM : SeenIs w mb n seen) (ha : Apart w0 W g sb mb) (hsm : s.small) (hnb : n < 1000000) (hn : s.next.toList = ([111, 114, 105, 103, 105, 110] : List UInt8)) (hq : inB s.next seen = false) (n_ : Int) (ok_ : Bool) (hN1 : sign_Number.f k (s.take).next = some (n_, ok_)) :
  Calls Tryz.prog 62 #[.pointer (some ⟨g, 0, none⟩), .pointer (some ⟨sb, 0, none⟩), .map (some mb)] w fun e w' => e = .returned (.tuple #[]) ∧ ∃ v', RuleI w0 W g sb mb w' ((s.take.number n_ ok_ 1 9).must semiB) { x with f1 := n_ } v' ∧ SeenIs w' mb (n + 1) (s.next :: seen) := by
 have HA := Aside0.mk ha
 have HSM := Aside0.mk hsm
 have HNB := Aside0.mk hnb
 clear ha hsm hnb
 have q0 : (s.next.toList == ([111, 114, 105, 103, 105, 110] : List UInt8)) = true := beq_iff_eq.mpr hn
 have q1 : (s.next.toList == ([116, 116, 108] : List UInt8)) = false := beq_eq_false_iff_ne.mpr (by rw [hn]; decide)
 have q2 : (s.next.toList == ([107, 101, 121] : List UInt8)) = false := beq_eq_false_iff_ne.mpr (by rw [hn]; decide)
 have q3 : (s.next.toList == ([107, 101, 101, 112] : List UInt8)) = false := beq_eq_false_iff_ne.mpr (by rw [hn]; decide)
 have q5 : inB s.next seen = false := hq
 clear hn hq
 have N1 := Aside0.mk hN1
 clear hN1
 have CN := Aside0.mk (rs_next w0 w g s hI.rd)
 have HSZ := Aside0.mk (RS.small_next HSM.out)
 obtain ⟨t, ht⟩ : ∃ t, t = s.next := ⟨_, rfl⟩
 rw [← ht] at q0 q1 q2 q3 q5 CN HSZ ⊢
 have HT := Aside0.mk ht
 clear ht
 go_enter Tryz.func62, Tryz.ntmps62
 go_wp2_with (first | (go_at_call 58; refine CN.out.mono ?_; rintro e _ ⟨rfl, rfl⟩) | (at_lookup; refine wpList_lookup_seen rfl _ _ 86 rfl Tryz.underlying86 mb n seen rfl hM t rfl (Nat.le_trans HSZ.out (by decide)) ?_; rw [q5]) | (at_mapUpdate; refine wpList_update_seen rfl _ _ _ 86 rfl Tryz.underlying86 mb n seen rfl hM (Nat.lt_trans HNB.out (by decide)) t rfl rfl (Nat.le_trans HSZ.out (by decide)) ?_; intro w5 M5 k5_ g5_; have K5 := hI.mstep HA.out k5_ (grown_below hI.rd.2.2.1 g5_ HA.out.m_ge)))
 clear hI hM k5_ g5_
 refine (rs_take w0 w5 g _ K5.rd).mono ?_
 rintro e w6 ⟨rfl, h_, k_⟩
 have K6 := K5.gstep HA.out h_ k_
 have M6 := SeenIs.gkept M5 HA.out k_
 clear K5 M5 h_ k_
 have HS6 := Aside0.mk (RS.small_take HSM.out)
 go_wp2_with fail
 refine (rs_number w0 w6 g _ k n_ ok_ 1 9 K6.rd (K6.wf HA.out) (RS.small_next HS6.out) N1.out).mono ?_
 rintro e w7 ⟨rfl, h_, k_⟩
 have K7 := K6.gstep HA.out h_ k_
 have M7 := SeenIs.gkept M6 HA.out k_
 clear K6 M6 h_ k_
 have i1 := (blk_cell K7.site 1).trans rfl
 have f1 := blk_frozen K7.site 1
 go_wp2_with fail
 have K8 := K7.sstep (y := { x with f1 := n_ }) HA.out 1 (.int .i64 n_) (blk_put K7.site 1 _ rfl) rfl
 have M8 := SeenIs.kept M7 (Kept.set_ w7 sb 1 (.int .i64 n_)) (fun e => HA.out.sm e.symm)
 generalize w7.setCell ⟨sb, 1, none⟩ (.int .i64 n_) = w8 at *
 clear K7 M7 i1 f1
 have HW := Aside0.mk K8
 have HM := Aside0.mk M8
 clear M8
 refine (rs_must w0 w8 g _ semiB K8.rd).mono ?_
 rintro e w9 ⟨rfl, h_, k_⟩
 clear K8
 go_wp2
 go_end0
 exact ⟨rfl, _, HW.out.gstep HA.out h_ k_, SeenIs.gkept HM.out HA.out k_⟩

set_option maxHeartbeats 4000000 in
set_option maxRecDepth 100000 in
theorem rule_ttlS (k : Nat) (w0 W w : World) (g sb mb n : Nat) (s : RS) (x : S57) (v : Value) (seen : List ByteArray) (hI : RuleI w0 W g sb mb w s x v) (hM : SeenIs w mb n seen) (ha : Apart w0 W g sb mb) (hsm : s.small) (hnb : n < 1000000) (hn : s.next.toList = ([116, 116, 108] : List UInt8)) (hq : inB s.next seen = true) (n_ n2_ : Int) (ok_ ok2_ : Bool) (hN1 : sign_Number.f k ((s.fail 31).take).next = some (n_, ok_)) (hN2 : sign_Number.f k ((s.fail 31).take.number n_ ok_ 0 2147483648).next = some (n2_, ok2_)) :
  Calls Tryz.prog 62 #[.pointer (some ⟨g, 0, none⟩), .pointer (some ⟨sb, 0, none⟩), .map (some mb)] w fun e w' => e = .returned (.tuple #[]) ∧ ∃ v', RuleI w0 W g sb mb w' ((((s.fail 31).take.number n_ ok_ 0 2147483648).number n2_ ok2_ n_ 2147483648).must semiB) { x with f2 := n_, f3 := n2_ } v' ∧ SeenIs w' mb (n + 1) (s.next :: seen) := by
 have HA := Aside0.mk ha
 have HSM := Aside0.mk hsm
 have HNB := Aside0.mk hnb
 clear ha hsm hnb
 have q0 : (s.next.toList == ([111, 114, 105, 103, 105, 110] : List UInt8)) = false := beq_eq_false_iff_ne.mpr (by rw [hn]; decide)
 have q1 : (s.next.toList == ([116, 116, 108] : List UInt8)) = true := beq_iff_eq.mpr hn
 have q2 : (s.next.toList == ([107, 101, 121] : List UInt8)) = false := beq_eq_false_iff_ne.mpr (by rw [hn]; decide)
 have q3 : (s.next.toList == ([107, 101, 101, 112] : List UInt8)) = false := beq_eq_false_iff_ne.mpr (by rw [hn]; decide)
 have q5 : inB s.next seen = true := hq
 clear hn hq
 have N1 := Aside0.mk hN1
 have N2 := Aside0.mk hN2
 clear hN1 hN2
 have CN := Aside0.mk (rs_next w0 w g s hI.rd)
 have HSZ := Aside0.mk (RS.small_next HSM.out)
 obtain ⟨t, ht⟩ : ∃ t, t = s.next := ⟨_, rfl⟩
 rw [← ht] at q0 q1 q2 q3 q5 CN HSZ ⊢
 have HT := Aside0.mk ht
 clear ht
 go_enter Tryz.func62, Tryz.ntmps62
 go_wp2_with (first | (go_at_call 58; refine CN.out.mono ?_; rintro e _ ⟨rfl, rfl⟩) | (at_lookup; refine wpList_lookup_seen rfl _ _ 86 rfl Tryz.underlying86 mb n seen rfl hM t rfl (Nat.le_trans HSZ.out (by decide)) ?_; rw [q5]))
 refine (rs_fail w0 w g _ 31 hI.rd).mono ?_
 rintro e w2 ⟨rfl, h_, k_⟩
 have K2 := hI.gstep HA.out h_ k_
 have M2 := SeenIs.gkept hM HA.out k_
 clear hI hM h_ k_
 go_wp2_with ((at_mapUpdate; refine wpList_update_seen rfl _ _ _ 86 rfl Tryz.underlying86 mb n seen rfl M2 (Nat.lt_trans HNB.out (by decide)) t rfl rfl (Nat.le_trans HSZ.out (by decide)) ?_; intro w5 M5 k5_ g5_; have K5 := K2.mstep HA.out k5_ (grown_below K2.rd.2.2.1 g5_ HA.out.m_ge)))
 clear K2 M2 k5_ g5_
 refine (rs_take w0 w5 g _ K5.rd).mono ?_
 rintro e w6 ⟨rfl, h_, k_⟩
 have K6 := K5.gstep HA.out h_ k_
 have M6 := SeenIs.gkept M5 HA.out k_
 clear K5 M5 h_ k_
 have HS6 := Aside0.mk (RS.small_take (RS.small_fail HSM.out 31))
 go_wp2_with fail
 refine (rs_number w0 w6 g _ k n_ ok_ 0 2147483648 K6.rd (K6.wf HA.out) (RS.small_next HS6.out) N1.out).mono ?_
 rintro e w7 ⟨rfl, h_, k_⟩
 have K7 := K6.gstep HA.out h_ k_
 have M7 := SeenIs.gkept M6 HA.out k_
 clear K6 M6 h_ k_
 have i1 := (blk_cell K7.site 2).trans rfl
 have f1 := blk_frozen K7.site 2
 go_wp2_with fail
 have K7' := K7.sstep (y := { x with f2 := n_ }) HA.out 2 (.int .i64 n_) (blk_put K7.site 2 _ rfl) rfl
 have M7' := SeenIs.kept M7 (Kept.set_ w7 sb 2 (.int .i64 n_)) (fun e => HA.out.sm e.symm)
 generalize w7.setCell ⟨sb, 2, none⟩ (.int .i64 n_) = w7' at *
 clear K7 M7 i1 f1
 have i2 := (blk_cell K7'.site 2).trans rfl
 have f2 := blk_frozen K7'.site 2
 have HS7 := Aside0.mk (RS.small_number HS6.out n_ ok_ 0 2147483648)
 refine (rs_number w0 w7' g _ k n2_ ok2_ n_ 2147483648 K7'.rd (K7'.wf HA.out) (RS.small_next HS7.out) N2.out).mono ?_
 rintro e w7'' ⟨rfl, h_, k_⟩
 have K7'' := K7'.gstep HA.out h_ k_
 have M7'' := SeenIs.gkept M7' HA.out k_
 clear K7' M7' h_ k_ i2 f2
 have i3 := (blk_cell K7''.site 3).trans rfl
 have f3 := blk_frozen K7''.site 3
 go_wp2_with fail
 have K8 := K7''.sstep (y := { x with f2 := n_, f3 := n2_ }) HA.out 3 (.int .i64 n2_) (blk_put K7''.site 3 _ rfl) rfl
 have M8 := SeenIs.kept M7'' (Kept.set_ w7'' sb 3 (.int .i64 n2_)) (fun e => HA.out.sm e.symm)
 generalize w7''.setCell ⟨sb, 3, none⟩ (.int .i64 n2_) = w8 at *
 clear K7'' M7'' i3 f3
 have HW := Aside0.mk K8
 have HM := Aside0.mk M8
 clear M8
 refine (rs_must w0 w8 g _ semiB K8.rd).mono ?_
 rintro e w9 ⟨rfl, h_, k_⟩
 clear K8
 go_wp2
 go_end0
 exact ⟨rfl, _, HW.out.gstep HA.out h_ k_, SeenIs.gkept HM.out HA.out k_⟩

set_option maxHeartbeats 4000000 in
set_option maxRecDepth 100000 in
theorem rule_ttlN (k : Nat) (w0 W w : World) (g sb mb n : Nat) (s : RS) (x : S57) (v : Value) (seen : List ByteArray) (hI : RuleI w0 W g sb mb w s x v) (hM : SeenIs w mb n seen) (ha : Apart w0 W g sb mb) (hsm : s.small) (hnb : n < 1000000) (hn : s.next.toList = ([116, 116, 108] : List UInt8)) (hq : inB s.next seen = false) (n_ n2_ : Int) (ok_ ok2_ : Bool) (hN1 : sign_Number.f k (s.take).next = some (n_, ok_)) (hN2 : sign_Number.f k (s.take.number n_ ok_ 0 2147483648).next = some (n2_, ok2_)) :
  Calls Tryz.prog 62 #[.pointer (some ⟨g, 0, none⟩), .pointer (some ⟨sb, 0, none⟩), .map (some mb)] w fun e w' => e = .returned (.tuple #[]) ∧ ∃ v', RuleI w0 W g sb mb w' (((s.take.number n_ ok_ 0 2147483648).number n2_ ok2_ n_ 2147483648).must semiB) { x with f2 := n_, f3 := n2_ } v' ∧ SeenIs w' mb (n + 1) (s.next :: seen) := by
 have HA := Aside0.mk ha
 have HSM := Aside0.mk hsm
 have HNB := Aside0.mk hnb
 clear ha hsm hnb
 have q0 : (s.next.toList == ([111, 114, 105, 103, 105, 110] : List UInt8)) = false := beq_eq_false_iff_ne.mpr (by rw [hn]; decide)
 have q1 : (s.next.toList == ([116, 116, 108] : List UInt8)) = true := beq_iff_eq.mpr hn
 have q2 : (s.next.toList == ([107, 101, 121] : List UInt8)) = false := beq_eq_false_iff_ne.mpr (by rw [hn]; decide)
 have q3 : (s.next.toList == ([107, 101, 101, 112] : List UInt8)) = false := beq_eq_false_iff_ne.mpr (by rw [hn]; decide)
 have q5 : inB s.next seen = false := hq
 clear hn hq
 have N1 := Aside0.mk hN1
 have N2 := Aside0.mk hN2
 clear hN1 hN2
 have CN := Aside0.mk (rs_next w0 w g s hI.rd)
 have HSZ := Aside0.mk (RS.small_next HSM.out)
 obtain ⟨t, ht⟩ : ∃ t, t = s.next := ⟨_, rfl⟩
 rw [← ht] at q0 q1 q2 q3 q5 CN HSZ ⊢
 have HT := Aside0.mk ht
 clear ht
 go_enter Tryz.func62, Tryz.ntmps62
 go_wp2_with (first | (go_at_call 58; refine CN.out.mono ?_; rintro e _ ⟨rfl, rfl⟩) | (at_lookup; refine wpList_lookup_seen rfl _ _ 86 rfl Tryz.underlying86 mb n seen rfl hM t rfl (Nat.le_trans HSZ.out (by decide)) ?_; rw [q5]) | (at_mapUpdate; refine wpList_update_seen rfl _ _ _ 86 rfl Tryz.underlying86 mb n seen rfl hM (Nat.lt_trans HNB.out (by decide)) t rfl rfl (Nat.le_trans HSZ.out (by decide)) ?_; intro w5 M5 k5_ g5_; have K5 := hI.mstep HA.out k5_ (grown_below hI.rd.2.2.1 g5_ HA.out.m_ge)))
 clear hI hM k5_ g5_
 refine (rs_take w0 w5 g _ K5.rd).mono ?_
 rintro e w6 ⟨rfl, h_, k_⟩
 have K6 := K5.gstep HA.out h_ k_
 have M6 := SeenIs.gkept M5 HA.out k_
 clear K5 M5 h_ k_
 have HS6 := Aside0.mk (RS.small_take HSM.out)
 go_wp2_with fail
 refine (rs_number w0 w6 g _ k n_ ok_ 0 2147483648 K6.rd (K6.wf HA.out) (RS.small_next HS6.out) N1.out).mono ?_
 rintro e w7 ⟨rfl, h_, k_⟩
 have K7 := K6.gstep HA.out h_ k_
 have M7 := SeenIs.gkept M6 HA.out k_
 clear K6 M6 h_ k_
 have i1 := (blk_cell K7.site 2).trans rfl
 have f1 := blk_frozen K7.site 2
 go_wp2_with fail
 have K7' := K7.sstep (y := { x with f2 := n_ }) HA.out 2 (.int .i64 n_) (blk_put K7.site 2 _ rfl) rfl
 have M7' := SeenIs.kept M7 (Kept.set_ w7 sb 2 (.int .i64 n_)) (fun e => HA.out.sm e.symm)
 generalize w7.setCell ⟨sb, 2, none⟩ (.int .i64 n_) = w7' at *
 clear K7 M7 i1 f1
 have i2 := (blk_cell K7'.site 2).trans rfl
 have f2 := blk_frozen K7'.site 2
 have HS7 := Aside0.mk (RS.small_number HS6.out n_ ok_ 0 2147483648)
 refine (rs_number w0 w7' g _ k n2_ ok2_ n_ 2147483648 K7'.rd (K7'.wf HA.out) (RS.small_next HS7.out) N2.out).mono ?_
 rintro e w7'' ⟨rfl, h_, k_⟩
 have K7'' := K7'.gstep HA.out h_ k_
 have M7'' := SeenIs.gkept M7' HA.out k_
 clear K7' M7' h_ k_ i2 f2
 have i3 := (blk_cell K7''.site 3).trans rfl
 have f3 := blk_frozen K7''.site 3
 go_wp2_with fail
 have K8 := K7''.sstep (y := { x with f2 := n_, f3 := n2_ }) HA.out 3 (.int .i64 n2_) (blk_put K7''.site 3 _ rfl) rfl
 have M8 := SeenIs.kept M7'' (Kept.set_ w7'' sb 3 (.int .i64 n2_)) (fun e => HA.out.sm e.symm)
 generalize w7''.setCell ⟨sb, 3, none⟩ (.int .i64 n2_) = w8 at *
 clear K7'' M7'' i3 f3
 have HW := Aside0.mk K8
 have HM := Aside0.mk M8
 clear M8
 refine (rs_must w0 w8 g _ semiB K8.rd).mono ?_
 rintro e w9 ⟨rfl, h_, k_⟩
 clear K8
 go_wp2
 go_end0
 exact ⟨rfl, _, HW.out.gstep HA.out h_ k_, SeenIs.gkept HM.out HA.out k_⟩

set_option maxHeartbeats 4000000 in
set_option maxRecDepth 100000 in
theorem rule_keyS (k : Nat) (w0 W w : World) (g sb mb n : Nat) (s : RS) (x : S57) (v : Value) (seen : List ByteArray) (hI : RuleI w0 W g sb mb w s x v) (hM : SeenIs w mb n seen) (ha : Apart w0 W g sb mb) (hsm : s.small) (hnb : n < 1000000) (hn : s.next.toList = ([107, 101, 121] : List UInt8)) (hq : inB s.next seen = true) (r0 : RS × Bool × List ByteArray) (hN1 : keyF k (s.fail 31).take = some r0) :
  Calls Tryz.prog 62 #[.pointer (some ⟨g, 0, none⟩), .pointer (some ⟨sb, 0, none⟩), .map (some mb)] w fun e w' => e = .returned (.tuple #[]) ∧ ∃ v', RuleI w0 W g sb mb w' (r0.1.must semiB) { x with f4 := r0.2.1, f6 := r0.2.2 } v' ∧ SeenIs w' mb (n + 1) (s.next :: seen) := by
 have HA := Aside0.mk ha
 have HSM := Aside0.mk hsm
 have HNB := Aside0.mk hnb
 clear ha hsm hnb
 have q0 : (s.next.toList == ([111, 114, 105, 103, 105, 110] : List UInt8)) = false := beq_eq_false_iff_ne.mpr (by rw [hn]; decide)
 have q1 : (s.next.toList == ([116, 116, 108] : List UInt8)) = false := beq_eq_false_iff_ne.mpr (by rw [hn]; decide)
 have q2 : (s.next.toList == ([107, 101, 121] : List UInt8)) = true := beq_iff_eq.mpr hn
 have q3 : (s.next.toList == ([107, 101, 101, 112] : List UInt8)) = false := beq_eq_false_iff_ne.mpr (by rw [hn]; decide)
 have q5 : inB s.next seen = true := hq
 clear hn hq
 have N1 := Aside0.mk hN1
 clear hN1
 have CN := Aside0.mk (rs_next w0 w g s hI.rd)
 have HSZ := Aside0.mk (RS.small_next HSM.out)
 obtain ⟨t, ht⟩ : ∃ t, t = s.next := ⟨_, rfl⟩
 rw [← ht] at q0 q1 q2 q3 q5 CN HSZ ⊢
 have HT := Aside0.mk ht
 clear ht
 go_enter Tryz.func62, Tryz.ntmps62
 go_wp2_with (first | (go_at_call 58; refine CN.out.mono ?_; rintro e _ ⟨rfl, rfl⟩) | (at_lookup; refine wpList_lookup_seen rfl _ _ 86 rfl Tryz.underlying86 mb n seen rfl hM t rfl (Nat.le_trans HSZ.out (by decide)) ?_; rw [q5]))
 refine (rs_fail w0 w g _ 31 hI.rd).mono ?_
 rintro e w2 ⟨rfl, h_, k_⟩
 have K2 := hI.gstep HA.out h_ k_
 have M2 := SeenIs.gkept hM HA.out k_
 clear hI hM h_ k_
 go_wp2_with ((at_mapUpdate; refine wpList_update_seen rfl _ _ _ 86 rfl Tryz.underlying86 mb n seen rfl M2 (Nat.lt_trans HNB.out (by decide)) t rfl rfl (Nat.le_trans HSZ.out (by decide)) ?_; intro w5 M5 k5_ g5_; have K5 := K2.mstep HA.out k5_ (grown_below K2.rd.2.2.1 g5_ HA.out.m_ge)))
 clear K2 M2 k5_ g5_
 refine (rs_take w0 w5 g _ K5.rd).mono ?_
 rintro e w6 ⟨rfl, h_, k_⟩
 have K6 := K5.gstep HA.out h_ k_
 have M6 := SeenIs.gkept M5 HA.out k_
 clear K5 M5 h_ k_
 have HS6 := Aside0.mk (RS.small_take (RS.small_fail HSM.out 31))
 go_wp2_with fail
 refine (rs_key k w0 w6 g sb _ _ _ _ _ _ _ _ r0 K6.rd K6.site HA.out.gs HA.out.s_ge N1.out).mono ?_
 rintro e w8 ⟨rfl, v8, kk_⟩
 have K8 := K6.kstep (y := { x with f4 := r0.2.1, f6 := r0.2.2 }) HA.out kk_ rfl
 have M8 := SeenIs.skept M6 HA.out kk_.kept
 clear K6 M6 kk_
 go_wp2_with fail
 have HW := Aside0.mk K8
 have HM := Aside0.mk M8
 clear M8
 refine (rs_must w0 w8 g _ semiB K8.rd).mono ?_
 rintro e w9 ⟨rfl, h_, k_⟩
 clear K8
 go_wp2
 go_end0
 exact ⟨rfl, _, HW.out.gstep HA.out h_ k_, SeenIs.gkept HM.out HA.out k_⟩

set_option maxHeartbeats 4000000 in
set_option maxRecDepth 100000 in
theorem rule_keyN (k : Nat) (w0 W w : World) (g sb mb n : Nat) (s : RS) (x : S57) (v : Value) (seen : List ByteArray) (hI : RuleI w0 W g sb mb w s x v) (hM : SeenIs w mb n seen) (ha : Apart w0 W g sb mb) (hsm : s.small) (hnb : n < 1000000) (hn : s.next.toList = ([107, 101, 121] : List UInt8)) (hq : inB s.next seen = false) (r0 : RS × Bool × List ByteArray) (hN1 : keyF k s.take = some r0) :
  Calls Tryz.prog 62 #[.pointer (some ⟨g, 0, none⟩), .pointer (some ⟨sb, 0, none⟩), .map (some mb)] w fun e w' => e = .returned (.tuple #[]) ∧ ∃ v', RuleI w0 W g sb mb w' (r0.1.must semiB) { x with f4 := r0.2.1, f6 := r0.2.2 } v' ∧ SeenIs w' mb (n + 1) (s.next :: seen) := by
 have HA := Aside0.mk ha
 have HSM := Aside0.mk hsm
 have HNB := Aside0.mk hnb
 clear ha hsm hnb
 have q0 : (s.next.toList == ([111, 114, 105, 103, 105, 110] : List UInt8)) = false := beq_eq_false_iff_ne.mpr (by rw [hn]; decide)
 have q1 : (s.next.toList == ([116, 116, 108] : List UInt8)) = false := beq_eq_false_iff_ne.mpr (by rw [hn]; decide)
 have q2 : (s.next.toList == ([107, 101, 121] : List UInt8)) = true := beq_iff_eq.mpr hn
 have q3 : (s.next.toList == ([107, 101, 101, 112] : List UInt8)) = false := beq_eq_false_iff_ne.mpr (by rw [hn]; decide)
 have q5 : inB s.next seen = false := hq
 clear hn hq
 have N1 := Aside0.mk hN1
 clear hN1
 have CN := Aside0.mk (rs_next w0 w g s hI.rd)
 have HSZ := Aside0.mk (RS.small_next HSM.out)
 obtain ⟨t, ht⟩ : ∃ t, t = s.next := ⟨_, rfl⟩
 rw [← ht] at q0 q1 q2 q3 q5 CN HSZ ⊢
 have HT := Aside0.mk ht
 clear ht
 go_enter Tryz.func62, Tryz.ntmps62
 go_wp2_with (first | (go_at_call 58; refine CN.out.mono ?_; rintro e _ ⟨rfl, rfl⟩) | (at_lookup; refine wpList_lookup_seen rfl _ _ 86 rfl Tryz.underlying86 mb n seen rfl hM t rfl (Nat.le_trans HSZ.out (by decide)) ?_; rw [q5]) | (at_mapUpdate; refine wpList_update_seen rfl _ _ _ 86 rfl Tryz.underlying86 mb n seen rfl hM (Nat.lt_trans HNB.out (by decide)) t rfl rfl (Nat.le_trans HSZ.out (by decide)) ?_; intro w5 M5 k5_ g5_; have K5 := hI.mstep HA.out k5_ (grown_below hI.rd.2.2.1 g5_ HA.out.m_ge)))
 clear hI hM k5_ g5_
 refine (rs_take w0 w5 g _ K5.rd).mono ?_
 rintro e w6 ⟨rfl, h_, k_⟩
 have K6 := K5.gstep HA.out h_ k_
 have M6 := SeenIs.gkept M5 HA.out k_
 clear K5 M5 h_ k_
 have HS6 := Aside0.mk (RS.small_take HSM.out)
 go_wp2_with fail
 refine (rs_key k w0 w6 g sb _ _ _ _ _ _ _ _ r0 K6.rd K6.site HA.out.gs HA.out.s_ge N1.out).mono ?_
 rintro e w8 ⟨rfl, v8, kk_⟩
 have K8 := K6.kstep (y := { x with f4 := r0.2.1, f6 := r0.2.2 }) HA.out kk_ rfl
 have M8 := SeenIs.skept M6 HA.out kk_.kept
 clear K6 M6 kk_
 go_wp2_with fail
 have HW := Aside0.mk K8
 have HM := Aside0.mk M8
 clear M8
 refine (rs_must w0 w8 g _ semiB K8.rd).mono ?_
 rintro e w9 ⟨rfl, h_, k_⟩
 clear K8
 go_wp2
 go_end0
 exact ⟨rfl, _, HW.out.gstep HA.out h_ k_, SeenIs.gkept HM.out HA.out k_⟩

set_option maxHeartbeats 4000000 in
set_option maxRecDepth 100000 in
theorem rule_keepSA (k : Nat) (w0 W w : World) (g sb mb n : Nat) (s : RS) (x : S57) (v : Value) (seen : List ByteArray) (hI : RuleI w0 W g sb mb w s x v) (hM : SeenIs w mb n seen) (ha : Apart w0 W g sb mb) (hsm : s.small) (hnb : n < 1000000) (hn : s.next.toList = ([107, 101, 101, 112] : List UInt8)) (hq : inB s.next seen = true) (hp : (s.fail 31).take.next.toList = ([111, 110] : List UInt8)) :
  Calls Tryz.prog 62 #[.pointer (some ⟨g, 0, none⟩), .pointer (some ⟨sb, 0, none⟩), .map (some mb)] w fun e w' => e = .returned (.tuple #[]) ∧ ∃ v', RuleI w0 W g sb mb w' ((s.fail 31).take.take.must semiB) { x with f5 := true } v' ∧ SeenIs w' mb (n + 1) (s.next :: seen) := by
 have HA := Aside0.mk ha
 have HSM := Aside0.mk hsm
 have HNB := Aside0.mk hnb
 clear ha hsm hnb
 have q0 : (s.next.toList == ([111, 114, 105, 103, 105, 110] : List UInt8)) = false := beq_eq_false_iff_ne.mpr (by rw [hn]; decide)
 have q1 : (s.next.toList == ([116, 116, 108] : List UInt8)) = false := beq_eq_false_iff_ne.mpr (by rw [hn]; decide)
 have q2 : (s.next.toList == ([107, 101, 121] : List UInt8)) = false := beq_eq_false_iff_ne.mpr (by rw [hn]; decide)
 have q3 : (s.next.toList == ([107, 101, 101, 112] : List UInt8)) = true := beq_iff_eq.mpr hn
 have q5 : inB s.next seen = true := hq
 clear hn hq
 have CN := Aside0.mk (rs_next w0 w g s hI.rd)
 have HSZ := Aside0.mk (RS.small_next HSM.out)
 obtain ⟨t, ht⟩ : ∃ t, t = s.next := ⟨_, rfl⟩
 rw [← ht] at q0 q1 q2 q3 q5 CN HSZ ⊢
 have HT := Aside0.mk ht
 clear ht
 obtain ⟨s6, hs6⟩ : ∃ s6, s6 = (s.fail 31).take := ⟨_, rfl⟩
 rw [← hs6] at hp ⊢
 have HE6 := Aside0.mk hs6
 clear hs6
 go_enter Tryz.func62, Tryz.ntmps62
 go_wp2_with (first | (go_at_call 58; refine CN.out.mono ?_; rintro e _ ⟨rfl, rfl⟩) | (at_lookup; refine wpList_lookup_seen rfl _ _ 86 rfl Tryz.underlying86 mb n seen rfl hM t rfl (Nat.le_trans HSZ.out (by decide)) ?_; rw [q5]))
 refine (rs_fail w0 w g _ 31 hI.rd).mono ?_
 rintro e w2 ⟨rfl, h_, k_⟩
 have K2 := hI.gstep HA.out h_ k_
 have M2 := SeenIs.gkept hM HA.out k_
 clear hI hM h_ k_
 go_wp2_with ((at_mapUpdate; refine wpList_update_seen rfl _ _ _ 86 rfl Tryz.underlying86 mb n seen rfl M2 (Nat.lt_trans HNB.out (by decide)) t rfl rfl (Nat.le_trans HSZ.out (by decide)) ?_; intro w5 M5 k5_ g5_; have K5 := K2.mstep HA.out k5_ (grown_below K2.rd.2.2.1 g5_ HA.out.m_ge)))
 clear K2 M2 k5_ g5_
 refine (rs_take w0 w5 g _ K5.rd).mono ?_
 rintro e w6 ⟨rfl, h_, k_⟩
 have K6 := K5.gstep HA.out h_ k_
 have M6 := SeenIs.gkept M5 HA.out k_
 clear K5 M5 h_ k_
 have HS6 := Aside0.mk (RS.small_take (RS.small_fail HSM.out 31))
 have p1 : (s6.next.toList == ([111, 110] : List UInt8)) = true := beq_iff_eq.mpr hp
 clear hp
 rw [← HE6.out] at K6
 have i1 := (blk_cell K6.site 5).trans rfl
 have f1 := blk_frozen K6.site 5
 go_wp2_with (go_at_call 58; first | (refine (rs_next w0 w6 g s6 K6.rd).mono ?_; rintro e _ ⟨rfl, rfl⟩) | (have K7 := K6.sstep (y := { x with f5 := true }) HA.out 5 (.bool true) (blk_put K6.site 5 _ rfl) rfl; refine (rs_next w0 _ g s6 K7.rd).mono ?_; rintro e _ ⟨rfl, rfl⟩))
 have K7 := K6.sstep (y := { x with f5 := true }) HA.out 5 (.bool true) (blk_put K6.site 5 _ rfl) rfl
 have M7 := SeenIs.kept M6 (Kept.set_ w6 sb 5 (.bool true)) (fun e => HA.out.sm e.symm)
 generalize w6.setCell ⟨sb, 5, none⟩ (.bool true) = w7 at *
 clear K6 M6 i1 f1
 refine (rs_take w0 w7 g _ K7.rd).mono ?_
 rintro e w8 ⟨rfl, h_, k_⟩
 have K8 := K7.gstep HA.out h_ k_
 have M8 := SeenIs.gkept M7 HA.out k_
 clear K7 M7 h_ k_
 go_wp2_with fail
 have HW := Aside0.mk K8
 have HM := Aside0.mk M8
 clear M8
 refine (rs_must w0 w8 g _ semiB K8.rd).mono ?_
 rintro e w9 ⟨rfl, h_, k_⟩
 clear K8
 go_wp2
 go_end0
 exact ⟨rfl, _, HW.out.gstep HA.out h_ k_, SeenIs.gkept HM.out HA.out k_⟩

set_option maxHeartbeats 4000000 in
set_option maxRecDepth 100000 in
theorem rule_keepNA (k : Nat) (w0 W w : World) (g sb mb n : Nat) (s : RS) (x : S57) (v : Value) (seen : List ByteArray) (hI : RuleI w0 W g sb mb w s x v) (hM : SeenIs w mb n seen) (ha : Apart w0 W g sb mb) (hsm : s.small) (hnb : n < 1000000) (hn : s.next.toList = ([107, 101, 101, 112] : List UInt8)) (hq : inB s.next seen = false) (hp : s.take.next.toList = ([111, 110] : List UInt8)) :
  Calls Tryz.prog 62 #[.pointer (some ⟨g, 0, none⟩), .pointer (some ⟨sb, 0, none⟩), .map (some mb)] w fun e w' => e = .returned (.tuple #[]) ∧ ∃ v', RuleI w0 W g sb mb w' (s.take.take.must semiB) { x with f5 := true } v' ∧ SeenIs w' mb (n + 1) (s.next :: seen) := by
 have HA := Aside0.mk ha
 have HSM := Aside0.mk hsm
 have HNB := Aside0.mk hnb
 clear ha hsm hnb
 have q0 : (s.next.toList == ([111, 114, 105, 103, 105, 110] : List UInt8)) = false := beq_eq_false_iff_ne.mpr (by rw [hn]; decide)
 have q1 : (s.next.toList == ([116, 116, 108] : List UInt8)) = false := beq_eq_false_iff_ne.mpr (by rw [hn]; decide)
 have q2 : (s.next.toList == ([107, 101, 121] : List UInt8)) = false := beq_eq_false_iff_ne.mpr (by rw [hn]; decide)
 have q3 : (s.next.toList == ([107, 101, 101, 112] : List UInt8)) = true := beq_iff_eq.mpr hn
 have q5 : inB s.next seen = false := hq
 clear hn hq
 have CN := Aside0.mk (rs_next w0 w g s hI.rd)
 have HSZ := Aside0.mk (RS.small_next HSM.out)
 obtain ⟨t, ht⟩ : ∃ t, t = s.next := ⟨_, rfl⟩
 rw [← ht] at q0 q1 q2 q3 q5 CN HSZ ⊢
 have HT := Aside0.mk ht
 clear ht
 obtain ⟨s6, hs6⟩ : ∃ s6, s6 = s.take := ⟨_, rfl⟩
 rw [← hs6] at hp ⊢
 have HE6 := Aside0.mk hs6
 clear hs6
 go_enter Tryz.func62, Tryz.ntmps62
 go_wp2_with (first | (go_at_call 58; refine CN.out.mono ?_; rintro e _ ⟨rfl, rfl⟩) | (at_lookup; refine wpList_lookup_seen rfl _ _ 86 rfl Tryz.underlying86 mb n seen rfl hM t rfl (Nat.le_trans HSZ.out (by decide)) ?_; rw [q5]) | (at_mapUpdate; refine wpList_update_seen rfl _ _ _ 86 rfl Tryz.underlying86 mb n seen rfl hM (Nat.lt_trans HNB.out (by decide)) t rfl rfl (Nat.le_trans HSZ.out (by decide)) ?_; intro w5 M5 k5_ g5_; have K5 := hI.mstep HA.out k5_ (grown_below hI.rd.2.2.1 g5_ HA.out.m_ge)))
 clear hI hM k5_ g5_
 refine (rs_take w0 w5 g _ K5.rd).mono ?_
 rintro e w6 ⟨rfl, h_, k_⟩
 have K6 := K5.gstep HA.out h_ k_
 have M6 := SeenIs.gkept M5 HA.out k_
 clear K5 M5 h_ k_
 have HS6 := Aside0.mk (RS.small_take HSM.out)
 have p1 : (s6.next.toList == ([111, 110] : List UInt8)) = true := beq_iff_eq.mpr hp
 clear hp
 rw [← HE6.out] at K6
 have i1 := (blk_cell K6.site 5).trans rfl
 have f1 := blk_frozen K6.site 5
 go_wp2_with (go_at_call 58; first | (refine (rs_next w0 w6 g s6 K6.rd).mono ?_; rintro e _ ⟨rfl, rfl⟩) | (have K7 := K6.sstep (y := { x with f5 := true }) HA.out 5 (.bool true) (blk_put K6.site 5 _ rfl) rfl; refine (rs_next w0 _ g s6 K7.rd).mono ?_; rintro e _ ⟨rfl, rfl⟩))
 have K7 := K6.sstep (y := { x with f5 := true }) HA.out 5 (.bool true) (blk_put K6.site 5 _ rfl) rfl
 have M7 := SeenIs.kept M6 (Kept.set_ w6 sb 5 (.bool true)) (fun e => HA.out.sm e.symm)
 generalize w6.setCell ⟨sb, 5, none⟩ (.bool true) = w7 at *
 clear K6 M6 i1 f1
 refine (rs_take w0 w7 g _ K7.rd).mono ?_
 rintro e w8 ⟨rfl, h_, k_⟩
 have K8 := K7.gstep HA.out h_ k_
 have M8 := SeenIs.gkept M7 HA.out k_
 clear K7 M7 h_ k_
 go_wp2_with fail
 have HW := Aside0.mk K8
 have HM := Aside0.mk M8
 clear M8
 refine (rs_must w0 w8 g _ semiB K8.rd).mono ?_
 rintro e w9 ⟨rfl, h_, k_⟩
 clear K8
 go_wp2
 go_end0
 exact ⟨rfl, _, HW.out.gstep HA.out h_ k_, SeenIs.gkept HM.out HA.out k_⟩

set_option maxHeartbeats 4000000 in
set_option maxRecDepth 100000 in
theorem rule_keepSB (k : Nat) (w0 W w : World) (g sb mb n : Nat) (s : RS) (x : S57) (v : Value) (seen : List ByteArray) (hI : RuleI w0 W g sb mb w s x v) (hM : SeenIs w mb n seen) (ha : Apart w0 W g sb mb) (hsm : s.small) (hnb : n < 1000000) (hn : s.next.toList = ([107, 101, 101, 112] : List UInt8)) (hq : inB s.next seen = true) (hp0 : (s.fail 31).take.next.toList ≠ ([111, 110] : List UInt8)) (hp : (s.fail 31).take.next.toList = ([111, 102, 102] : List UInt8)) :
  Calls Tryz.prog 62 #[.pointer (some ⟨g, 0, none⟩), .pointer (some ⟨sb, 0, none⟩), .map (some mb)] w fun e w' => e = .returned (.tuple #[]) ∧ ∃ v', RuleI w0 W g sb mb w' ((s.fail 31).take.take.must semiB) { x with f5 := false } v' ∧ SeenIs w' mb (n + 1) (s.next :: seen) := by
 have HA := Aside0.mk ha
 have HSM := Aside0.mk hsm
 have HNB := Aside0.mk hnb
 clear ha hsm hnb
 have q0 : (s.next.toList == ([111, 114, 105, 103, 105, 110] : List UInt8)) = false := beq_eq_false_iff_ne.mpr (by rw [hn]; decide)
 have q1 : (s.next.toList == ([116, 116, 108] : List UInt8)) = false := beq_eq_false_iff_ne.mpr (by rw [hn]; decide)
 have q2 : (s.next.toList == ([107, 101, 121] : List UInt8)) = false := beq_eq_false_iff_ne.mpr (by rw [hn]; decide)
 have q3 : (s.next.toList == ([107, 101, 101, 112] : List UInt8)) = true := beq_iff_eq.mpr hn
 have q5 : inB s.next seen = true := hq
 clear hn hq
 have CN := Aside0.mk (rs_next w0 w g s hI.rd)
 have HSZ := Aside0.mk (RS.small_next HSM.out)
 obtain ⟨t, ht⟩ : ∃ t, t = s.next := ⟨_, rfl⟩
 rw [← ht] at q0 q1 q2 q3 q5 CN HSZ ⊢
 have HT := Aside0.mk ht
 clear ht
 obtain ⟨s6, hs6⟩ : ∃ s6, s6 = (s.fail 31).take := ⟨_, rfl⟩
 rw [← hs6] at hp0 hp ⊢
 have HE6 := Aside0.mk hs6
 clear hs6
 go_enter Tryz.func62, Tryz.ntmps62
 go_wp2_with (first | (go_at_call 58; refine CN.out.mono ?_; rintro e _ ⟨rfl, rfl⟩) | (at_lookup; refine wpList_lookup_seen rfl _ _ 86 rfl Tryz.underlying86 mb n seen rfl hM t rfl (Nat.le_trans HSZ.out (by decide)) ?_; rw [q5]))
 refine (rs_fail w0 w g _ 31 hI.rd).mono ?_
 rintro e w2 ⟨rfl, h_, k_⟩
 have K2 := hI.gstep HA.out h_ k_
 have M2 := SeenIs.gkept hM HA.out k_
 clear hI hM h_ k_
 go_wp2_with ((at_mapUpdate; refine wpList_update_seen rfl _ _ _ 86 rfl Tryz.underlying86 mb n seen rfl M2 (Nat.lt_trans HNB.out (by decide)) t rfl rfl (Nat.le_trans HSZ.out (by decide)) ?_; intro w5 M5 k5_ g5_; have K5 := K2.mstep HA.out k5_ (grown_below K2.rd.2.2.1 g5_ HA.out.m_ge)))
 clear K2 M2 k5_ g5_
 refine (rs_take w0 w5 g _ K5.rd).mono ?_
 rintro e w6 ⟨rfl, h_, k_⟩
 have K6 := K5.gstep HA.out h_ k_
 have M6 := SeenIs.gkept M5 HA.out k_
 clear K5 M5 h_ k_
 have HS6 := Aside0.mk (RS.small_take (RS.small_fail HSM.out 31))
 have p1 : (s6.next.toList == ([111, 110] : List UInt8)) = false := beq_eq_false_iff_ne.mpr hp0
 have p2 : (s6.next.toList != ([111, 102, 102] : List UInt8)) = false := bne_eq_false_iff_eq.mpr hp
 have p3 : (s6.next.toList == ([111, 102, 102] : List UInt8)) = true := beq_iff_eq.mpr hp
 clear hp0 hp
 rw [← HE6.out] at K6
 have i1 := (blk_cell K6.site 5).trans rfl
 have f1 := blk_frozen K6.site 5
 go_wp2_with (go_at_call 58; first | (refine (rs_next w0 w6 g s6 K6.rd).mono ?_; rintro e _ ⟨rfl, rfl⟩) | (have K7 := K6.sstep (y := { x with f5 := false }) HA.out 5 (.bool false) (blk_put K6.site 5 _ rfl) rfl; refine (rs_next w0 _ g s6 K7.rd).mono ?_; rintro e _ ⟨rfl, rfl⟩))
 have K7 := K6.sstep (y := { x with f5 := false }) HA.out 5 (.bool false) (blk_put K6.site 5 _ rfl) rfl
 have M7 := SeenIs.kept M6 (Kept.set_ w6 sb 5 (.bool false)) (fun e => HA.out.sm e.symm)
 generalize w6.setCell ⟨sb, 5, none⟩ (.bool false) = w7 at *
 clear K6 M6 i1 f1
 refine (rs_take w0 w7 g _ K7.rd).mono ?_
 rintro e w8 ⟨rfl, h_, k_⟩
 have K8 := K7.gstep HA.out h_ k_
 have M8 := SeenIs.gkept M7 HA.out k_
 clear K7 M7 h_ k_
 go_wp2_with fail
 have HW := Aside0.mk K8
 have HM := Aside0.mk M8
 clear M8
 refine (rs_must w0 w8 g _ semiB K8.rd).mono ?_
 rintro e w9 ⟨rfl, h_, k_⟩
 clear K8
 go_wp2
 go_end0
 exact ⟨rfl, _, HW.out.gstep HA.out h_ k_, SeenIs.gkept HM.out HA.out k_⟩

set_option maxHeartbeats 4000000 in
set_option maxRecDepth 100000 in
theorem rule_keepNB (k : Nat) (w0 W w : World) (g sb mb n : Nat) (s : RS) (x : S57) (v : Value) (seen : List ByteArray) (hI : RuleI w0 W g sb mb w s x v) (hM : SeenIs w mb n seen) (ha : Apart w0 W g sb mb) (hsm : s.small) (hnb : n < 1000000) (hn : s.next.toList = ([107, 101, 101, 112] : List UInt8)) (hq : inB s.next seen = false) (hp0 : s.take.next.toList ≠ ([111, 110] : List UInt8)) (hp : s.take.next.toList = ([111, 102, 102] : List UInt8)) :
  Calls Tryz.prog 62 #[.pointer (some ⟨g, 0, none⟩), .pointer (some ⟨sb, 0, none⟩), .map (some mb)] w fun e w' => e = .returned (.tuple #[]) ∧ ∃ v', RuleI w0 W g sb mb w' (s.take.take.must semiB) { x with f5 := false } v' ∧ SeenIs w' mb (n + 1) (s.next :: seen) := by
 have HA := Aside0.mk ha
 have HSM := Aside0.mk hsm
 have HNB := Aside0.mk hnb
 clear ha hsm hnb
 have q0 : (s.next.toList == ([111, 114, 105, 103, 105, 110] : List UInt8)) = false := beq_eq_false_iff_ne.mpr (by rw [hn]; decide)
 have q1 : (s.next.toList == ([116, 116, 108] : List UInt8)) = false := beq_eq_false_iff_ne.mpr (by rw [hn]; decide)
 have q2 : (s.next.toList == ([107, 101, 121] : List UInt8)) = false := beq_eq_false_iff_ne.mpr (by rw [hn]; decide)
 have q3 : (s.next.toList == ([107, 101, 101, 112] : List UInt8)) = true := beq_iff_eq.mpr hn
 have q5 : inB s.next seen = false := hq
 clear hn hq
 have CN := Aside0.mk (rs_next w0 w g s hI.rd)
 have HSZ := Aside0.mk (RS.small_next HSM.out)
 obtain ⟨t, ht⟩ : ∃ t, t = s.next := ⟨_, rfl⟩
 rw [← ht] at q0 q1 q2 q3 q5 CN HSZ ⊢
 have HT := Aside0.mk ht
 clear ht
 obtain ⟨s6, hs6⟩ : ∃ s6, s6 = s.take := ⟨_, rfl⟩
 rw [← hs6] at hp0 hp ⊢
 have HE6 := Aside0.mk hs6
 clear hs6
 go_enter Tryz.func62, Tryz.ntmps62
 go_wp2_with (first | (go_at_call 58; refine CN.out.mono ?_; rintro e _ ⟨rfl, rfl⟩) | (at_lookup; refine wpList_lookup_seen rfl _ _ 86 rfl Tryz.underlying86 mb n seen rfl hM t rfl (Nat.le_trans HSZ.out (by decide)) ?_; rw [q5]) | (at_mapUpdate; refine wpList_update_seen rfl _ _ _ 86 rfl Tryz.underlying86 mb n seen rfl hM (Nat.lt_trans HNB.out (by decide)) t rfl rfl (Nat.le_trans HSZ.out (by decide)) ?_; intro w5 M5 k5_ g5_; have K5 := hI.mstep HA.out k5_ (grown_below hI.rd.2.2.1 g5_ HA.out.m_ge)))
 clear hI hM k5_ g5_
 refine (rs_take w0 w5 g _ K5.rd).mono ?_
 rintro e w6 ⟨rfl, h_, k_⟩
 have K6 := K5.gstep HA.out h_ k_
 have M6 := SeenIs.gkept M5 HA.out k_
 clear K5 M5 h_ k_
 have HS6 := Aside0.mk (RS.small_take HSM.out)
 have p1 : (s6.next.toList == ([111, 110] : List UInt8)) = false := beq_eq_false_iff_ne.mpr hp0
 have p2 : (s6.next.toList != ([111, 102, 102] : List UInt8)) = false := bne_eq_false_iff_eq.mpr hp
 have p3 : (s6.next.toList == ([111, 102, 102] : List UInt8)) = true := beq_iff_eq.mpr hp
 clear hp0 hp
 rw [← HE6.out] at K6
 have i1 := (blk_cell K6.site 5).trans rfl
 have f1 := blk_frozen K6.site 5
 go_wp2_with (go_at_call 58; first | (refine (rs_next w0 w6 g s6 K6.rd).mono ?_; rintro e _ ⟨rfl, rfl⟩) | (have K7 := K6.sstep (y := { x with f5 := false }) HA.out 5 (.bool false) (blk_put K6.site 5 _ rfl) rfl; refine (rs_next w0 _ g s6 K7.rd).mono ?_; rintro e _ ⟨rfl, rfl⟩))
 have K7 := K6.sstep (y := { x with f5 := false }) HA.out 5 (.bool false) (blk_put K6.site 5 _ rfl) rfl
 have M7 := SeenIs.kept M6 (Kept.set_ w6 sb 5 (.bool false)) (fun e => HA.out.sm e.symm)
 generalize w6.setCell ⟨sb, 5, none⟩ (.bool false) = w7 at *
 clear K6 M6 i1 f1
 refine (rs_take w0 w7 g _ K7.rd).mono ?_
 rintro e w8 ⟨rfl, h_, k_⟩
 have K8 := K7.gstep HA.out h_ k_
 have M8 := SeenIs.gkept M7 HA.out k_
 clear K7 M7 h_ k_
 go_wp2_with fail
 have HW := Aside0.mk K8
 have HM := Aside0.mk M8
 clear M8
 refine (rs_must w0 w8 g _ semiB K8.rd).mono ?_
 rintro e w9 ⟨rfl, h_, k_⟩
 clear K8
 go_wp2
 go_end0
 exact ⟨rfl, _, HW.out.gstep HA.out h_ k_, SeenIs.gkept HM.out HA.out k_⟩

set_option maxHeartbeats 4000000 in
set_option maxRecDepth 100000 in
theorem rule_keepSC (k : Nat) (w0 W w : World) (g sb mb n : Nat) (s : RS) (x : S57) (v : Value) (seen : List ByteArray) (hI : RuleI w0 W g sb mb w s x v) (hM : SeenIs w mb n seen) (ha : Apart w0 W g sb mb) (hsm : s.small) (hnb : n < 1000000) (hn : s.next.toList = ([107, 101, 101, 112] : List UInt8)) (hq : inB s.next seen = true) (hp0 : (s.fail 31).take.next.toList ≠ ([111, 110] : List UInt8)) (hp : (s.fail 31).take.next.toList ≠ ([111, 102, 102] : List UInt8)) :
  Calls Tryz.prog 62 #[.pointer (some ⟨g, 0, none⟩), .pointer (some ⟨sb, 0, none⟩), .map (some mb)] w fun e w' => e = .returned (.tuple #[]) ∧ ∃ v', RuleI w0 W g sb mb w' (((s.fail 31).take.fail 30).take.must semiB) { x with f5 := false } v' ∧ SeenIs w' mb (n + 1) (s.next :: seen) := by
 have HA := Aside0.mk ha
 have HSM := Aside0.mk hsm
 have HNB := Aside0.mk hnb
 clear ha hsm hnb
 have q0 : (s.next.toList == ([111, 114, 105, 103, 105, 110] : List UInt8)) = false := beq_eq_false_iff_ne.mpr (by rw [hn]; decide)
 have q1 : (s.next.toList == ([116, 116, 108] : List UInt8)) = false := beq_eq_false_iff_ne.mpr (by rw [hn]; decide)
 have q2 : (s.next.toList == ([107, 101, 121] : List UInt8)) = false := beq_eq_false_iff_ne.mpr (by rw [hn]; decide)
 have q3 : (s.next.toList == ([107, 101, 101, 112] : List UInt8)) = true := beq_iff_eq.mpr hn
 have q5 : inB s.next seen = true := hq
 clear hn hq
 have CN := Aside0.mk (rs_next w0 w g s hI.rd)
 have HSZ := Aside0.mk (RS.small_next HSM.out)
 obtain ⟨t, ht⟩ : ∃ t, t = s.next := ⟨_, rfl⟩
 rw [← ht] at q0 q1 q2 q3 q5 CN HSZ ⊢
 have HT := Aside0.mk ht
 clear ht
 obtain ⟨s6, hs6⟩ : ∃ s6, s6 = (s.fail 31).take := ⟨_, rfl⟩
 rw [← hs6] at hp0 hp ⊢
 have HE6 := Aside0.mk hs6
 clear hs6
 go_enter Tryz.func62, Tryz.ntmps62
 go_wp2_with (first | (go_at_call 58; refine CN.out.mono ?_; rintro e _ ⟨rfl, rfl⟩) | (at_lookup; refine wpList_lookup_seen rfl _ _ 86 rfl Tryz.underlying86 mb n seen rfl hM t rfl (Nat.le_trans HSZ.out (by decide)) ?_; rw [q5]))
 refine (rs_fail w0 w g _ 31 hI.rd).mono ?_
 rintro e w2 ⟨rfl, h_, k_⟩
 have K2 := hI.gstep HA.out h_ k_
 have M2 := SeenIs.gkept hM HA.out k_
 clear hI hM h_ k_
 go_wp2_with ((at_mapUpdate; refine wpList_update_seen rfl _ _ _ 86 rfl Tryz.underlying86 mb n seen rfl M2 (Nat.lt_trans HNB.out (by decide)) t rfl rfl (Nat.le_trans HSZ.out (by decide)) ?_; intro w5 M5 k5_ g5_; have K5 := K2.mstep HA.out k5_ (grown_below K2.rd.2.2.1 g5_ HA.out.m_ge)))
 clear K2 M2 k5_ g5_
 refine (rs_take w0 w5 g _ K5.rd).mono ?_
 rintro e w6 ⟨rfl, h_, k_⟩
 have K6 := K5.gstep HA.out h_ k_
 have M6 := SeenIs.gkept M5 HA.out k_
 clear K5 M5 h_ k_
 have HS6 := Aside0.mk (RS.small_take (RS.small_fail HSM.out 31))
 have p1 : (s6.next.toList == ([111, 110] : List UInt8)) = false := beq_eq_false_iff_ne.mpr hp0
 have p2 : (s6.next.toList != ([111, 102, 102] : List UInt8)) = true := bne_iff_ne.mpr hp
 have p3 : (s6.next.toList == ([111, 102, 102] : List UInt8)) = false := beq_eq_false_iff_ne.mpr hp
 clear hp0 hp
 rw [← HE6.out] at K6
 have i1 := (blk_cell K6.site 5).trans rfl
 have f1 := blk_frozen K6.site 5
 go_wp2_with (go_at_call 58; first | (refine (rs_next w0 w6 g s6 K6.rd).mono ?_; rintro e _ ⟨rfl, rfl⟩) | (have K7 := K6.sstep (y := { x with f5 := false }) HA.out 5 (.bool false) (blk_put K6.site 5 _ rfl) rfl; refine (rs_next w0 _ g s6 K7.rd).mono ?_; rintro e _ ⟨rfl, rfl⟩))
 have K7 := K6.sstep (y := { x with f5 := false }) HA.out 5 (.bool false) (blk_put K6.site 5 _ rfl) rfl
 have M7 := SeenIs.kept M6 (Kept.set_ w6 sb 5 (.bool false)) (fun e => HA.out.sm e.symm)
 generalize w6.setCell ⟨sb, 5, none⟩ (.bool false) = w7 at *
 clear K6 M6 i1 f1
 refine (rs_fail w0 w7 g _ 30 K7.rd).mono ?_
 rintro e w7' ⟨rfl, h_, k_⟩
 have K7' := K7.gstep HA.out h_ k_
 have M7' := SeenIs.gkept M7 HA.out k_
 clear K7 M7 h_ k_
 go_wp2_with fail
 refine (rs_take w0 w7' g _ K7'.rd).mono ?_
 rintro e w8 ⟨rfl, h_, k_⟩
 have K8 := K7'.gstep HA.out h_ k_
 have M8 := SeenIs.gkept M7' HA.out k_
 clear K7' M7' h_ k_
 go_wp2_with fail
 have HW := Aside0.mk K8
 have HM := Aside0.mk M8
 clear M8
 refine (rs_must w0 w8 g _ semiB K8.rd).mono ?_
 rintro e w9 ⟨rfl, h_, k_⟩
 clear K8
 go_wp2
 go_end0
 exact ⟨rfl, _, HW.out.gstep HA.out h_ k_, SeenIs.gkept HM.out HA.out k_⟩

set_option maxHeartbeats 4000000 in
set_option maxRecDepth 100000 in
theorem rule_keepNC (k : Nat) (w0 W w : World) (g sb mb n : Nat) (s : RS) (x : S57) (v : Value) (seen : List ByteArray) (hI : RuleI w0 W g sb mb w s x v) (hM : SeenIs w mb n seen) (ha : Apart w0 W g sb mb) (hsm : s.small) (hnb : n < 1000000) (hn : s.next.toList = ([107, 101, 101, 112] : List UInt8)) (hq : inB s.next seen = false) (hp0 : s.take.next.toList ≠ ([111, 110] : List UInt8)) (hp : s.take.next.toList ≠ ([111, 102, 102] : List UInt8)) :
  Calls Tryz.prog 62 #[.pointer (some ⟨g, 0, none⟩), .pointer (some ⟨sb, 0, none⟩), .map (some mb)] w fun e w' => e = .returned (.tuple #[]) ∧ ∃ v', RuleI w0 W g sb mb w' ((s.take.fail 30).take.must semiB) { x with f5 := false } v' ∧ SeenIs w' mb (n + 1) (s.next :: seen) := by
 have HA := Aside0.mk ha
 have HSM := Aside0.mk hsm
 have HNB := Aside0.mk hnb
 clear ha hsm hnb
 have q0 : (s.next.toList == ([111, 114, 105, 103, 105, 110] : List UInt8)) = false := beq_eq_false_iff_ne.mpr (by rw [hn]; decide)
 have q1 : (s.next.toList == ([116, 116, 108] : List UInt8)) = false := beq_eq_false_iff_ne.mpr (by rw [hn]; decide)
 have q2 : (s.next.toList == ([107, 101, 121] : List UInt8)) = false := beq_eq_false_iff_ne.mpr (by rw [hn]; decide)
 have q3 : (s.next.toList == ([107, 101, 101, 112] : List UInt8)) = true := beq_iff_eq.mpr hn
 have q5 : inB s.next seen = false := hq
 clear hn hq
 have CN := Aside0.mk (rs_next w0 w g s hI.rd)
 have HSZ := Aside0.mk (RS.small_next HSM.out)
 obtain ⟨t, ht⟩ : ∃ t, t = s.next := ⟨_, rfl⟩
 rw [← ht] at q0 q1 q2 q3 q5 CN HSZ ⊢
 have HT := Aside0.mk ht
 clear ht
 obtain ⟨s6, hs6⟩ : ∃ s6, s6 = s.take := ⟨_, rfl⟩
 rw [← hs6] at hp0 hp ⊢
 have HE6 := Aside0.mk hs6
 clear hs6
 go_enter Tryz.func62, Tryz.ntmps62
 go_wp2_with (first | (go_at_call 58; refine CN.out.mono ?_; rintro e _ ⟨rfl, rfl⟩) | (at_lookup; refine wpList_lookup_seen rfl _ _ 86 rfl Tryz.underlying86 mb n seen rfl hM t rfl (Nat.le_trans HSZ.out (by decide)) ?_; rw [q5]) | (at_mapUpdate; refine wpList_update_seen rfl _ _ _ 86 rfl Tryz.underlying86 mb n seen rfl hM (Nat.lt_trans HNB.out (by decide)) t rfl rfl (Nat.le_trans HSZ.out (by decide)) ?_; intro w5 M5 k5_ g5_; have K5 := hI.mstep HA.out k5_ (grown_below hI.rd.2.2.1 g5_ HA.out.m_ge)))
 clear hI hM k5_ g5_
 refine (rs_take w0 w5 g _ K5.rd).mono ?_
 rintro e w6 ⟨rfl, h_, k_⟩
 have K6 := K5.gstep HA.out h_ k_
 have M6 := SeenIs.gkept M5 HA.out k_
 clear K5 M5 h_ k_
 have HS6 := Aside0.mk (RS.small_take HSM.out)
 have p1 : (s6.next.toList == ([111, 110] : List UInt8)) = false := beq_eq_false_iff_ne.mpr hp0
 have p2 : (s6.next.toList != ([111, 102, 102] : List UInt8)) = true := bne_iff_ne.mpr hp
 have p3 : (s6.next.toList == ([111, 102, 102] : List UInt8)) = false := beq_eq_false_iff_ne.mpr hp
 clear hp0 hp
 rw [← HE6.out] at K6
 have i1 := (blk_cell K6.site 5).trans rfl
 have f1 := blk_frozen K6.site 5
 go_wp2_with (go_at_call 58; first | (refine (rs_next w0 w6 g s6 K6.rd).mono ?_; rintro e _ ⟨rfl, rfl⟩) | (have K7 := K6.sstep (y := { x with f5 := false }) HA.out 5 (.bool false) (blk_put K6.site 5 _ rfl) rfl; refine (rs_next w0 _ g s6 K7.rd).mono ?_; rintro e _ ⟨rfl, rfl⟩))
 have K7 := K6.sstep (y := { x with f5 := false }) HA.out 5 (.bool false) (blk_put K6.site 5 _ rfl) rfl
 have M7 := SeenIs.kept M6 (Kept.set_ w6 sb 5 (.bool false)) (fun e => HA.out.sm e.symm)
 generalize w6.setCell ⟨sb, 5, none⟩ (.bool false) = w7 at *
 clear K6 M6 i1 f1
 refine (rs_fail w0 w7 g _ 30 K7.rd).mono ?_
 rintro e w7' ⟨rfl, h_, k_⟩
 have K7' := K7.gstep HA.out h_ k_
 have M7' := SeenIs.gkept M7 HA.out k_
 clear K7 M7 h_ k_
 go_wp2_with fail
 refine (rs_take w0 w7' g _ K7'.rd).mono ?_
 rintro e w8 ⟨rfl, h_, k_⟩
 have K8 := K7'.gstep HA.out h_ k_
 have M8 := SeenIs.gkept M7' HA.out k_
 clear K7' M7' h_ k_
 go_wp2_with fail
 have HW := Aside0.mk K8
 have HM := Aside0.mk M8
 clear M8
 refine (rs_must w0 w8 g _ semiB K8.rd).mono ?_
 rintro e w9 ⟨rfl, h_, k_⟩
 clear K8
 go_wp2
 go_end0
 exact ⟨rfl, _, HW.out.gstep HA.out h_ k_, SeenIs.gkept HM.out HA.out k_⟩

set_option maxHeartbeats 4000000 in
set_option maxRecDepth 100000 in
theorem rule_badS (k : Nat) (w0 W w : World) (g sb mb n : Nat) (s : RS) (x : S57) (v : Value) (seen : List ByteArray) (hI : RuleI w0 W g sb mb w s x v) (hM : SeenIs w mb n seen) (ha : Apart w0 W g sb mb) (hsm : s.small) (hnb : n < 1000000) (hn0 : s.next.toList ≠ ([111, 114, 105, 103, 105, 110] : List UInt8)) (hn1 : s.next.toList ≠ ([116, 116, 108] : List UInt8)) (hn2 : s.next.toList ≠ ([107, 101, 121] : List UInt8)) (hn3 : s.next.toList ≠ ([107, 101, 101, 112] : List UInt8))  (hq : inB s.next seen = true)  :
  Calls Tryz.prog 62 #[.pointer (some ⟨g, 0, none⟩), .pointer (some ⟨sb, 0, none⟩), .map (some mb)] w fun e w' => e = .returned (.tuple #[]) ∧ ∃ v', RuleI w0 W g sb mb w' (((s.fail 30).fail 31).take.must semiB) x v' ∧ SeenIs w' mb (n + 1) (s.next :: seen) := by
 have HA := Aside0.mk ha
 have HSM := Aside0.mk hsm
 have HNB := Aside0.mk hnb
 clear ha hsm hnb
 have q0 : (s.next.toList == ([111, 114, 105, 103, 105, 110] : List UInt8)) = false := beq_eq_false_iff_ne.mpr hn0
 have q1 : (s.next.toList == ([116, 116, 108] : List UInt8)) = false := beq_eq_false_iff_ne.mpr hn1
 have q2 : (s.next.toList == ([107, 101, 121] : List UInt8)) = false := beq_eq_false_iff_ne.mpr hn2
 have q3 : (s.next.toList == ([107, 101, 101, 112] : List UInt8)) = false := beq_eq_false_iff_ne.mpr hn3
 have q5 : inB s.next seen = true := hq
 clear hn0 hn1 hn2 hn3 hq
 have CN := Aside0.mk (rs_next w0 w g s hI.rd)
 have HSZ := Aside0.mk (RS.small_next HSM.out)
 obtain ⟨t, ht⟩ : ∃ t, t = s.next := ⟨_, rfl⟩
 rw [← ht] at q0 q1 q2 q3 q5 CN HSZ ⊢
 have HT := Aside0.mk ht
 clear ht
 go_enter Tryz.func62, Tryz.ntmps62
 go_wp2_with ((go_at_call 58; refine CN.out.mono ?_; rintro e _ ⟨rfl, rfl⟩))
 refine (rs_fail w0 w g _ 30 hI.rd).mono ?_
 rintro e w1 ⟨rfl, h_, k_⟩
 have K1 := hI.gstep HA.out h_ k_
 have M1 := SeenIs.gkept hM HA.out k_
 clear hI hM CN h_ k_
 go_wp2_with (first | (at_lookup; refine wpList_lookup_seen rfl _ _ 86 rfl Tryz.underlying86 mb n seen rfl M1 t rfl (Nat.le_trans HSZ.out (by decide)) ?_; rw [q5]))
 refine (rs_fail w0 w1 g _ 31 K1.rd).mono ?_
 rintro e w2 ⟨rfl, h_, k_⟩
 have K2 := K1.gstep HA.out h_ k_
 have M2 := SeenIs.gkept M1 HA.out k_
 clear K1 M1 h_ k_
 go_wp2_with ((at_mapUpdate; refine wpList_update_seen rfl _ _ _ 86 rfl Tryz.underlying86 mb n seen rfl M2 (Nat.lt_trans HNB.out (by decide)) t rfl rfl (Nat.le_trans HSZ.out (by decide)) ?_; intro w5 M5 k5_ g5_; have K5 := K2.mstep HA.out k5_ (grown_below K2.rd.2.2.1 g5_ HA.out.m_ge)))
 clear K2 M2 k5_ g5_
 refine (rs_take w0 w5 g _ K5.rd).mono ?_
 rintro e w6 ⟨rfl, h_, k_⟩
 have K6 := K5.gstep HA.out h_ k_
 have M6 := SeenIs.gkept M5 HA.out k_
 clear K5 M5 h_ k_
 have HS6 := Aside0.mk (RS.small_take (RS.small_fail (RS.small_fail HSM.out 30) 31))
 have K8 := K6
 have M8 := M6
 clear K6 M6
 go_wp2_with fail
 have HW := Aside0.mk K8
 have HM := Aside0.mk M8
 clear M8
 refine (rs_must w0 w6 g _ semiB K8.rd).mono ?_
 rintro e w9 ⟨rfl, h_, k_⟩
 clear K8
 go_wp2
 go_end0
 exact ⟨rfl, _, HW.out.gstep HA.out h_ k_, SeenIs.gkept HM.out HA.out k_⟩

set_option maxHeartbeats 4000000 in
set_option maxRecDepth 100000 in
theorem rule_badN (k : Nat) (w0 W w : World) (g sb mb n : Nat) (s : RS) (x : S57) (v : Value) (seen : List ByteArray) (hI : RuleI w0 W g sb mb w s x v) (hM : SeenIs w mb n seen) (ha : Apart w0 W g sb mb) (hsm : s.small) (hnb : n < 1000000) (hn0 : s.next.toList ≠ ([111, 114, 105, 103, 105, 110] : List UInt8)) (hn1 : s.next.toList ≠ ([116, 116, 108] : List UInt8)) (hn2 : s.next.toList ≠ ([107, 101, 121] : List UInt8)) (hn3 : s.next.toList ≠ ([107, 101, 101, 112] : List UInt8))  (hq : inB s.next seen = false)  :
  Calls Tryz.prog 62 #[.pointer (some ⟨g, 0, none⟩), .pointer (some ⟨sb, 0, none⟩), .map (some mb)] w fun e w' => e = .returned (.tuple #[]) ∧ ∃ v', RuleI w0 W g sb mb w' ((s.fail 30).take.must semiB) x v' ∧ SeenIs w' mb (n + 1) (s.next :: seen) := by
 have HA := Aside0.mk ha
 have HSM := Aside0.mk hsm
 have HNB := Aside0.mk hnb
 clear ha hsm hnb
 have q0 : (s.next.toList == ([111, 114, 105, 103, 105, 110] : List UInt8)) = false := beq_eq_false_iff_ne.mpr hn0
 have q1 : (s.next.toList == ([116, 116, 108] : List UInt8)) = false := beq_eq_false_iff_ne.mpr hn1
 have q2 : (s.next.toList == ([107, 101, 121] : List UInt8)) = false := beq_eq_false_iff_ne.mpr hn2
 have q3 : (s.next.toList == ([107, 101, 101, 112] : List UInt8)) = false := beq_eq_false_iff_ne.mpr hn3
 have q5 : inB s.next seen = false := hq
 clear hn0 hn1 hn2 hn3 hq
 have CN := Aside0.mk (rs_next w0 w g s hI.rd)
 have HSZ := Aside0.mk (RS.small_next HSM.out)
 obtain ⟨t, ht⟩ : ∃ t, t = s.next := ⟨_, rfl⟩
 rw [← ht] at q0 q1 q2 q3 q5 CN HSZ ⊢
 have HT := Aside0.mk ht
 clear ht
 go_enter Tryz.func62, Tryz.ntmps62
 go_wp2_with ((go_at_call 58; refine CN.out.mono ?_; rintro e _ ⟨rfl, rfl⟩))
 refine (rs_fail w0 w g _ 30 hI.rd).mono ?_
 rintro e w1 ⟨rfl, h_, k_⟩
 have K1 := hI.gstep HA.out h_ k_
 have M1 := SeenIs.gkept hM HA.out k_
 clear hI hM CN h_ k_
 go_wp2_with (first | (at_lookup; refine wpList_lookup_seen rfl _ _ 86 rfl Tryz.underlying86 mb n seen rfl M1 t rfl (Nat.le_trans HSZ.out (by decide)) ?_; rw [q5]) | (at_mapUpdate; refine wpList_update_seen rfl _ _ _ 86 rfl Tryz.underlying86 mb n seen rfl M1 (Nat.lt_trans HNB.out (by decide)) t rfl rfl (Nat.le_trans HSZ.out (by decide)) ?_; intro w5 M5 k5_ g5_; have K5 := K1.mstep HA.out k5_ (grown_below K1.rd.2.2.1 g5_ HA.out.m_ge)))
 clear K1 M1 k5_ g5_
 refine (rs_take w0 w5 g _ K5.rd).mono ?_
 rintro e w6 ⟨rfl, h_, k_⟩
 have K6 := K5.gstep HA.out h_ k_
 have M6 := SeenIs.gkept M5 HA.out k_
 clear K5 M5 h_ k_
 have HS6 := Aside0.mk (RS.small_take (RS.small_fail HSM.out 30))
 have K8 := K6
 have M8 := M6
 clear K6 M6
 go_wp2_with fail
 have HW := Aside0.mk K8
 have HM := Aside0.mk M8
 clear M8
 refine (rs_must w0 w6 g _ semiB K8.rd).mono ?_
 rintro e w9 ⟨rfl, h_, k_⟩
 clear K8
 go_wp2
 go_end0
 exact ⟨rfl, _, HW.out.gstep HA.out h_ k_, SeenIs.gkept HM.out HA.out k_⟩

theorem rs_rule (k : Nat) (w0 W w : World) (g sb mb n : Nat) (s : RS) (x : S57) (v : Value) (seen : List ByteArray) (r : RS × S57 × List ByteArray) (hI : RuleI w0 W g sb mb w s x v) (hM : SeenIs w mb n seen) (ha : Apart w0 W g sb mb) (hsm : s.small) (hnb : n < 1000000) (hf : ruleF k s x seen = some r) :
  Calls Tryz.prog 62 #[.pointer (some ⟨g, 0, none⟩), .pointer (some ⟨sb, 0, none⟩), .map (some mb)] w fun e w' => e = .returned (.tuple #[]) ∧ ∃ v', RuleI w0 W g sb mb w' r.1 r.2.1 v' ∧ SeenIs w' mb (n + 1) r.2.2 := by
 unfold ruleF at hf
 obtain ⟨p, hp, hr⟩ := Option.bind_eq_some_iff.mp hf
 obtain rfl := Option.some.inj hr
 clear hf hr
 unfold ruleB at hp
 have kn : ∀ b, known s.next = b → s.ruleA seen = (if inB s.next seen = true then (if b = true then s else s.fail 30).fail 31 else (if b = true then s else s.fail 30)).take := fun b hb => by unfold RS.ruleA; rw [hb]
 by_cases h1 : s.next.toList = ([111, 114, 105, 103, 105, 110] : List UInt8)
 ·
  rw [if_pos h1, kn true (by simp [known, h1])] at hp
  simp only [if_true] at hp
  obtain ⟨⟨a, b⟩, h_, hp⟩ := Option.bind_eq_some_iff.mp hp
  obtain rfl := Option.some.inj hp
  by_cases hq : inB s.next seen = true
  ·
   simp only [if_pos hq] at h_ ⊢
   exact rule_originS k w0 W w g sb mb n s x v seen hI hM ha hsm hnb h1 hq a b h_
  ·
   simp only [if_neg hq] at h_ ⊢
   exact rule_originN k w0 W w g sb mb n s x v seen hI hM ha hsm hnb h1 (Bool.eq_false_iff.2 hq) a b h_
 rw [if_neg h1] at hp
 by_cases h2 : s.next.toList = ([116, 116, 108] : List UInt8)
 ·
  rw [if_pos h2, kn true (by simp [known, h2])] at hp
  simp only [if_true] at hp
  obtain ⟨⟨a, b⟩, h_, hp⟩ := Option.bind_eq_some_iff.mp hp
  obtain ⟨⟨a2, b2⟩, h2_, hp⟩ := Option.bind_eq_some_iff.mp hp
  obtain rfl := Option.some.inj hp
  by_cases hq : inB s.next seen = true
  ·
   simp only [if_pos hq] at h_ h2_ ⊢
   exact rule_ttlS k w0 W w g sb mb n s x v seen hI hM ha hsm hnb h2 hq a a2 b b2 h_ h2_
  ·
   simp only [if_neg hq] at h_ h2_ ⊢
   exact rule_ttlN k w0 W w g sb mb n s x v seen hI hM ha hsm hnb h2 (Bool.eq_false_iff.2 hq) a a2 b b2 h_ h2_
 rw [if_neg h2] at hp
 by_cases h3 : s.next.toList = ([107, 101, 121] : List UInt8)
 ·
  rw [if_pos h3, kn true (by simp [known, h3])] at hp
  simp only [if_true] at hp
  obtain ⟨r0, h_, hp⟩ := Option.bind_eq_some_iff.mp hp
  obtain rfl := Option.some.inj hp
  by_cases hq : inB s.next seen = true
  ·
   simp only [if_pos hq] at h_ ⊢
   exact rule_keyS k w0 W w g sb mb n s x v seen hI hM ha hsm hnb h3 hq r0 h_
  ·
   simp only [if_neg hq] at h_ ⊢
   exact rule_keyN k w0 W w g sb mb n s x v seen hI hM ha hsm hnb h3 (Bool.eq_false_iff.2 hq) r0 h_
 rw [if_neg h3] at hp
 by_cases h4 : s.next.toList = ([107, 101, 101, 112] : List UInt8)
 ·
  rw [if_pos h4, kn true (by simp [known, h4])] at hp
  simp only [if_true] at hp
  by_cases hq : inB s.next seen = true
  ·
   simp only [if_pos hq] at hp
   by_cases p1 : (s.fail 31).take.next.toList = ([111, 110] : List UInt8)
   ·
    rw [if_pos p1] at hp
    obtain rfl := Option.some.inj hp
    exact rule_keepSA k w0 W w g sb mb n s x v seen hI hM ha hsm hnb h4 hq p1
   ·
    rw [if_neg p1] at hp
    by_cases p2 : (s.fail 31).take.next.toList = ([111, 102, 102] : List UInt8)
    ·
     rw [if_pos p2] at hp
     obtain rfl := Option.some.inj hp
     exact rule_keepSB k w0 W w g sb mb n s x v seen hI hM ha hsm hnb h4 hq p1 p2
    ·
     rw [if_neg p2] at hp
     obtain rfl := Option.some.inj hp
     exact rule_keepSC k w0 W w g sb mb n s x v seen hI hM ha hsm hnb h4 hq p1 p2
  ·
   simp only [if_neg hq] at hp
   by_cases p1 : s.take.next.toList = ([111, 110] : List UInt8)
   ·
    rw [if_pos p1] at hp
    obtain rfl := Option.some.inj hp
    exact rule_keepNA k w0 W w g sb mb n s x v seen hI hM ha hsm hnb h4 (Bool.eq_false_iff.2 hq) p1
   ·
    rw [if_neg p1] at hp
    by_cases p2 : s.take.next.toList = ([111, 102, 102] : List UInt8)
    ·
     rw [if_pos p2] at hp
     obtain rfl := Option.some.inj hp
     exact rule_keepNB k w0 W w g sb mb n s x v seen hI hM ha hsm hnb h4 (Bool.eq_false_iff.2 hq) p1 p2
    ·
     rw [if_neg p2] at hp
     obtain rfl := Option.some.inj hp
     exact rule_keepNC k w0 W w g sb mb n s x v seen hI hM ha hsm hnb h4 (Bool.eq_false_iff.2 hq) p1 p2
 rw [if_neg h4, kn false (by simp [known, h1, h2, h3, h4])] at hp
 obtain rfl := Option.some.inj hp
 simp only [Bool.false_eq_true, if_false]
 by_cases hq : inB s.next seen = true
 ·
  simp only [if_pos hq]
  exact rule_badS k w0 W w g sb mb n s x v seen hI hM ha hsm hnb h1 h2 h3 h4 hq
 ·
  simp only [if_neg hq]
  exact rule_badN k w0 W w g sb mb n s x v seen hI hM ha hsm hnb h1 h2 h3 h4 (Bool.eq_false_iff.2 hq)

end Go.Proofs.YtlncpbnadlpihaaGreatDoor.PAll
