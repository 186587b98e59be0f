import Derived.Deep.Cut
import Derived.Deep.CutRange
import Derived.Deep.CutBlock
import Derived.Test.YtlncpbnadlpihaaGreatDoorPAllx0
import Derived.Test.YtlncpbnadlpihaaGreatDoorPAllx4
import Derived.Test.YtlncpbnadlpihaaGreatDoorPAllx6
import Derived.Test.YtlncpbnadlpihaaGreatDoorPAllx8
import Derived.Test.YtlncpbnadlpihaaGreatDoorPAllx9
import Derived.Test.YtlncpbnadlpihaaGreatDoorPAllx11
import Derived.Test.YtlncpbnadlpihaaGreatDoorPAllx12
import Derived.Test.YtlncpbnadlpihaaGreatDoorPAllx13
namespace Go.Proofs.YtlncpbnadlpihaaGreatDoor.PAll
open Go.RowKit Go.Proofs.YtlncpbnadlpihaaGreatDoorW.PrintWords Go.Proofs.YtlncpbnadlpihaaGreatDoorW.PrintLast Go.Proofs.YtlncpbnadlpihaaGreatDoorW.PrintMore
attribute [local go_sem] max2_int min2_int max_two min_two max_three min_three max_four min_four   -- for this text's walks alone
set_option linter.unusedVariables false
set_option linter.unusedSimpArgs false

/-! ### conf_reader_site: function 44, by hand -/
-- over 43 31 50
theorem S_kept {α : Type} {d : Kd α} {e base : Nat} {w w' : World} {ok S : Nat → Prop} {v : Value} {xs : List α} (h : Kd.S d e w base ok v xs) (hk : Kept w w' S) (hS : ∀ k, ok k → ¬ S k) : Kd.S d e w' base ok v xs := Kd.S_step h (fun k ho hlt => hk.2 k hlt (hS k ho))
/-- What site stands on: the reader (block g), the config (block cb); its row is younger than W. -/
structure CfI (w0 W : World) (g cb : Nat) (w : World) (s : RS) (xs : List S57) (v : Value) : Prop where
 rd : RdS w0 w g s
 cf : w.heap[cb]? = some (.cells #[v] 24 (0, 0))
 row : Kd.S k57 57 w W.heap.size (fun k => W.heap.size ≤ k) v xs
 kept : Kept W w (fun i => i = g ∨ i = cb)
structure CfA (w0 W : World) (g cb : Nat) : Prop where
 gc : g ≠ cb
 g_lt : g < W.heap.size
 c_lt : cb < W.heap.size
 c_ge : w0.heap.size ≤ cb
 wf : WF w0
theorem CfI.gstep {w0 W : World} {g cb : Nat} {w w2 : World} {s s2 : RS} {xs : List S57} {v : Value} (h : CfI w0 W g cb w s xs v) (ha : CfA w0 W g cb) (h2 : RdS w0 w2 g s2) (hk : Kept w w2 (fun k => k = g)) : CfI w0 W g cb w2 s2 xs v :=
 ⟨h2, blk_kept h.cf hk (fun e => ha.gc e.symm), S_kept h.row hk (fun k ho => by have := ha.g_lt; omega), Kept.trans_ h.kept (Kept.mono_ hk (fun k e => .inl e))⟩
theorem CfI.bstep {w0 W : World} {g cb : Nat} {w w2 : World} {s : RS} {xs : List S57} {v : Value} (h : CfI w0 W g cb w s xs v) (ha : CfA w0 W g cb) (hb : Below w.heap.size w w2) : CfI w0 W g cb w2 s xs v :=
 h.gstep ha (h.rd.below hb) (Kept.below_ _ hb)
/-- .. and the site that is read (block sb). -/
structure SitI (w0 W : World) (g cb sb : Nat) (w : World) (s : RS) (xs : List S57) (v : Value) (x : S57) (u : Value) : Prop where
 cf : CfI w0 W g cb w s xs v
 st : SiteAt w sb x.f0 x.f1 x.f2 x.f3 x.f4 x.f5 u
 ro : Kd.S k57 57 w W.heap.size (fun k => W.heap.size ≤ k ∧ k < sb) v xs
 ge : W.heap.size ≤ sb
theorem SitI.gstep {w0 W : World} {g cb sb : Nat} {w w2 : World} {s s2 : RS} {xs : List S57} {v : Value} {x : S57} {u : Value} (h : SitI w0 W g cb sb w s xs v x u) (ha : CfA w0 W g cb) (h2 : RdS w0 w2 g s2) (hk : Kept w w2 (fun k => k = g)) : SitI w0 W g cb sb w2 s2 xs v x u :=
 ⟨h.cf.gstep ha h2 hk, h.st.kept hk (fun e => by have h1 := ha.g_lt; have h2 := h.ge; omega), S_kept h.ro hk (fun k ho => by have := ha.g_lt; omega), h.ge⟩
theorem SitI.bstep {w0 W : World} {g cb sb : Nat} {w w2 : World} {s : RS} {xs : List S57} {v : Value} {x : S57} {u : Value} (h : SitI w0 W g cb sb w s xs v x u) (ha : CfA w0 W g cb) (hb : Below w.heap.size w w2) : SitI w0 W g cb sb w2 s xs v x u :=
 h.gstep ha (h.cf.rd.below hb) (Kept.below_ _ hb)
theorem infoSite_ : (Tryz.prog.info? 57).map (fun i => (i.zero, i.size, i.bytes)) = some (some (.agg #[.string ⟨#[]⟩, .int .i64 0, .int .i64 0, .int .i64 0, .bool false, .bool false, .slice none 0 0]), 7, 72) := by kernel_rfl
/-- The append has run: its value is stored. -/
theorem CfI.put {w0 W : World} {g cb : Nat} {w w1 : World} {s : RS} {xs ys : List S57} {v v1 : Value} (h : CfI w0 W g cb w s xs v) (ha : CfA w0 W g cb) (hr : Kd.S k57 57 w1 W.heap.size (fun k => W.heap.size ≤ k) v1 ys) (hb : Below W.heap.size w.drew w1) :
  CfI w0 W g cb (w1.setCell ⟨cb, 0, none⟩ v1) s ys v1 := by
 have hg := ha.g_lt
 have hc := ha.c_lt
 have hge := ha.c_ge
 have hk : Kept W w1 (fun i => i = g ∨ i = cb) := Kept.then_ (Kept.drew h.kept) (S2 := fun k => W.heap.size ≤ k) ⟨hb.size, fun i hi hn => hb.block i (by omega)⟩ (fun k hk => .inr hk)
 obtain ⟨wb, off, n, cap, hn, hh, hcp, hrd⟩ := h.rd.1
 exact ⟨⟨⟨wb, off, n, cap, hn, blk_ne (blk_low (bD_ hh) hb hg) ha.gc, hcp, hrd⟩, h.rd.2.1, (((below_drew h.rd.2.2.1).trans (below_lower hb (by omega))).setCell hge _), h.rd.2.2.2⟩, blk_put (blk_low (bD_ h.cf) hb hc) 0 _ rfl, Kd.S_far hr (fun k hk => by simp only; omega) _, Kept.setCell hk (.inl (.inr rfl)) _⟩
theorem below_then' {w w1 w2 : World} (h : Below w.heap.size w w1) (h2 : Below w1.heap.size w1 w2) : Below w.heap.size w w2 := h.trans (h2.mono h.size)
def siteB : ByteArray := ⟨#[115, 105, 116, 101]⟩
def openB : ByteArray := ⟨#[123]⟩
def closeB : ByteArray := ⟨#[125]⟩
def rulesL : Nat → RS → S57 → List ByteArray → Option (RS × S57)
 | 0, _, _, _ => none
 | k + 1, s, x, seen => if s.code = 0 then (if s.next.toList = ([125] : List UInt8) then some (s, x) else if seen.length < 1000 then (ruleF k s x seen).bind fun r => rulesL k r.1 r.2.1 r.2.2 else none) else some (s, x)
def siteA (s : RS) (n : Nat) : RS := (if s.next.toList = ([115, 105, 116, 101] : List UInt8) ∧ n = 8 then s.fail 32 else s).must siteB
def siteH (s : RS) (h : ByteArray) (e : Int) : RS := if s.code = 0 ∧ (e ≠ 0 ∨ h.toList ≠ s.next.toList) then s.fail 30 else s
def siteX (host : ByteArray) : S57 := ⟨host, 1, 0, 3600, true, true, []⟩
def siteF (k : Nat) (s : RS) (xs : List S57) : Option (RS × S57) :=
 (place_Host.f k (siteA s xs.length).next).bind fun p => (conf_Config_Find.f k xs (siteA s xs.length).next).bind fun q =>
  (rulesL k ((if q.2.2.2.2.2.2.2 = true then (siteH (siteA s xs.length) p.1 p.2).fail 31 else siteH (siteA s xs.length) p.1 p.2).take.must openB) (siteX (siteA s xs.length).next) []).bind fun r => some (r.1.must closeB, r.2)
theorem keyL_small : ∀ k s q hs r, keyL k s q hs = some r → s.small → r.1.small
 | 0, _, _, _, _ => fun h => by simp [keyL] at h
 | k + 1, s, q, hs, r => fun h hs_ => by
  have ih := keyL_small k
  simp only [keyL] at h
  split at h
  ·
   split at h
   ·
    obtain rfl := Option.some.inj h
    exact hs_
   ·
    split at h
    ·
     exact ih _ _ _ _ h (RS.small_take hs_)
    ·
     split at h
     ·
      obtain ⟨b, _, h⟩ := Option.bind_eq_some_iff.mp h
      split at h
      ·
       obtain ⟨c, _, h⟩ := Option.bind_eq_some_iff.mp h
       split at h
       ·
        split at h
        ·
         exact ih _ _ _ _ h (RS.small_take (RS.small_fail (RS.small_must hs_ _) _))
        ·
         exact ih _ _ _ _ h (RS.small_take (RS.small_must hs_ _))
       ·
        exact ih _ _ _ _ h (RS.small_take (RS.small_fail (RS.small_must hs_ _) _))
      ·
       exact ih _ _ _ _ h (RS.small_take (RS.small_fail (RS.small_must hs_ _) _))
     ·
      exact ih _ _ _ _ h (RS.small_take (RS.small_must hs_ _))
  ·
   obtain rfl := Option.some.inj h
   exact hs_
theorem ruleA_small {s : RS} (h : s.small) (seen : List ByteArray) : (s.ruleA seen).small := by
 unfold RS.ruleA
 refine RS.small_take ?_
 split
 ·
  refine RS.small_fail ?_ _
  split
  ·
   exact h
  ·
   exact RS.small_fail h _
 ·
  split
  ·
   exact h
  ·
   exact RS.small_fail h _
theorem ruleB_small {k : Nat} {n : ByteArray} {s : RS} {x : S57} {p : RS × S57} (h : ruleB k n s x = some p) (hs : s.small) : p.1.small := by
 unfold ruleB at h
 split at h
 ·
  obtain ⟨a, _, h⟩ := Option.bind_eq_some_iff.mp h
  obtain rfl := Option.some.inj h
  exact RS.small_number hs _ _ _ _
 ·
  split at h
  ·
   obtain ⟨a, _, h⟩ := Option.bind_eq_some_iff.mp h
   obtain ⟨a2, _, h⟩ := Option.bind_eq_some_iff.mp h
   obtain rfl := Option.some.inj h
   exact RS.small_number (RS.small_number hs _ _ _ _) _ _ _ _
  ·
   split at h
   ·
    obtain ⟨a, ha, h⟩ := Option.bind_eq_some_iff.mp h
    obtain rfl := Option.some.inj h
    exact keyL_small _ _ _ _ _ ha (RS.small_must hs _)
   ·
    split at h
    ·
     split at h
     ·
      obtain rfl := Option.some.inj h
      exact RS.small_take hs
     ·
      split at h
      ·
       obtain rfl := Option.some.inj h
       exact RS.small_take hs
      ·
       obtain rfl := Option.some.inj h
       exact RS.small_take (RS.small_fail hs _)
    ·
     obtain rfl := Option.some.inj h
     exact hs
theorem ruleF_small {k : Nat} {s : RS} {x : S57} {seen : List ByteArray} {r : RS × S57 × List ByteArray} (h : ruleF k s x seen = some r) (hs : s.small) : r.1.small ∧ r.2.2 = s.next :: seen := by
 unfold ruleF at h
 obtain ⟨p, hp, h⟩ := Option.bind_eq_some_iff.mp h
 obtain rfl := Option.some.inj h
 exact ⟨RS.small_must (ruleB_small hp (ruleA_small hs _)) _, rfl⟩
theorem rulesL_mono : ∀ k s x seen, LeO (rulesL k s x seen) (rulesL (k + 1) s x seen)
 | 0, _, _, _ => fun r h => by simp [rulesL] at h
 | k + 1, s, x, seen => by
  have ih := rulesL_mono k
  unfold rulesL
  repeat' (with_reducible first | exact ih _ _ _ | exact ruleF_mono _ _ _ _ | exact lR_ | refine LeO.ite ?_ ?_ | refine LeO.bind ?_ (fun _ => ?_))
theorem siteF_mono (k : Nat) (s : RS) (xs : List S57) : LeO (siteF k s xs) (siteF (k + 1) s xs) := by
 unfold siteF
 repeat' (with_reducible first | exact rulesL_mono _ _ _ _ | exact place_Host.mono _ _ | exact conf_Config_Find.mono _ _ _ | exact lR_ | refine LeO.bind ?_ (fun _ => ?_))

set_option maxHeartbeats 8000000 in
set_option maxRecDepth 100000 in
theorem rs_site (k : Nat) (w0 W w : World) (g cb : Nat) (s : RS) (xs : List S57) (v : Value) (r : RS × S57) (hI : CfI w0 W g cb w s xs v) (ha : CfA w0 W g cb) (hsm : s.small) (hlen : xs.length ≤ 8) (hf : siteF k s xs = some r) :
  Calls Tryz.prog 44 #[.pointer (some ⟨g, 0, none⟩), .pointer (some ⟨cb, 0, none⟩)] w fun e w' => e = .returned (.tuple #[]) ∧ ∃ v', CfI w0 W g cb w' r.1 (xs ++ [r.2]) v' := by
 have HA := Aside0.mk ha
 have HSM := Aside0.mk hsm
 have HLN := Aside0.mk hlen
 obtain ⟨⟨hh_, ee_⟩, hp, hf⟩ := Option.bind_eq_some_iff.mp hf
 obtain ⟨⟨r1, r2, r3, r4, r5, r6, r7, ok⟩, hq, hf⟩ := Option.bind_eq_some_iff.mp hf
 obtain ⟨r0, hr, hf⟩ := Option.bind_eq_some_iff.mp hf
 obtain rfl := Option.some.inj hf
 have HP := Aside0.mk hp
 have HQ := Aside0.mk hq
 have HR := Aside0.mk hr
 have HI := Aside0.mk hI
 clear ha hsm hlen hp hq hr hf hI
 obtain ⟨A, c, rfl⟩ := Kd.S_slice HI.out.row
 go_enter Tryz.func44, Tryz.ntmps44
 go_upto_region 0 with fail
 obtain ⟨b0, hb0⟩ : ∃ b0, b0 = (decide (s.next.toList = ([115, 105, 116, 101] : List UInt8)) && decide (xs.length = 8)) := ⟨_, rfl⟩
 go_cut [20] from 10 (fun s20 wc => s20 = .bool b0 ∧ wc = w)
 case first =>
  have j0 := (blk_cell HI.out.cf 0).trans rfl
  by_cases c1 : s.next.toList = ([115, 105, 116, 101] : List UInt8)
  ·
   have q1 : (s.next.toList == ([115, 105, 116, 101] : List UInt8)) = true := beq_iff_eq.mpr c1
   by_cases c2 : xs.length = 8
   ·
    have q2 : ((xs.length : Int) == 8) = true := beq_iff_eq.mpr (by omega)
    have q3 : (xs.length == 8) = true := beq_iff_eq.mpr c2
    have HBE : b0 = true := by rw [hb0]; simp [c1, c2]
    clear c1 c2 hb0
    go_wp2_with (go_at_call 58; refine (rs_next w0 w g _ HI.out.rd).mono ?_; rintro e _ ⟨rfl, rfl⟩)
    go_meet
    case rel => exact ⟨by rw [HBE], rfl⟩
   ·
    have q2 : ((xs.length : Int) == 8) = false := beq_eq_false_iff_ne.mpr (by omega)
    have q3 : (xs.length == 8) = false := beq_eq_false_iff_ne.mpr c2
    have HBE : b0 = false := by rw [hb0]; simp [c2]
    clear c1 c2 hb0
    go_wp2_with (go_at_call 58; refine (rs_next w0 w g _ HI.out.rd).mono ?_; rintro e _ ⟨rfl, rfl⟩)
    go_meet
    case rel => exact ⟨by rw [HBE], rfl⟩
  ·
   have q1 : (s.next.toList == ([115, 105, 116, 101] : List UInt8)) = false := beq_eq_false_iff_ne.mpr c1
   have HBE : b0 = false := by rw [hb0]; simp [c1]
   clear c1 hb0
   go_wp2_with (go_at_call 58; refine (rs_next w0 w g _ HI.out.rd).mono ?_; rintro e _ ⟨rfl, rfl⟩)
   go_meet
   case rel => exact ⟨by rw [HBE], rfl⟩
 case rest =>
  obtain ⟨rfl, rfl⟩ := hcut
  obtain ⟨s1, hs1⟩ : ∃ s1, s1 = (if b0 = true then s.fail 32 else s) := ⟨_, rfl⟩
  have HSA := Aside0.mk (show siteA s xs.length = s1.must siteB from by
   rw [hs1, hb0]
   unfold siteA
   by_cases c1 : s.next.toList = ([115, 105, 116, 101] : List UInt8)
   ·
    by_cases c2 : xs.length = 8
    ·
     simp [c1, c2]
    ·
     simp [c1, c2]
   ·
    simp [c1])
  have HSM1 := Aside0.mk (show (s1.must siteB).small from RS.small_must (by rw [hs1]; split; exact HSM.out; exact HSM.out) _)
  clear hb0
  go_upto_if 20 with fail
  go_cut [] from 21 (fun wc => Aside0 (CfI w0 W g cb wc s1 xs (.slice A xs.length c)))
  case first =>
   cases b0 with
   | true =>
    go_wp2_with fail
    refine (rs_fail w0 _ g s 32 HI.out.rd).mono ?_
    rintro e w2 ⟨rfl, h_, k_⟩
    have HN := Aside0.mk (HI.out.gstep HA.out h_ k_)
    clear h_ k_
    go_wp2
    go_meet
    case rel => exact ⟨by rw [hs1]; exact HN.out⟩
   | false =>
    go_wp2
    go_meet
    case rel => exact ⟨by rw [hs1]; exact HI.out⟩
  case rest =>
   have I1 := hcut
   clear hcut HI HSM hs1
   go_wp2_with fail
   refine (rs_must w0 wc g _ siteB I1.out.rd).mono ?_
   rintro e w2 ⟨rfl, h_, k_⟩
   have I2 := Aside0.mk (I1.out.gstep HA.out h_ k_)
   clear h_ k_ I1
   rw [← HSA.out] at I2 HSM1
   clear HSA
   generalize siteA s xs.length = s2 at *
   have HRB := Aside0.mk (Kd.S_bound I2.out.row)
   go_wp2_with (go_at_call 58; refine (rs_next w0 w2 g _ I2.out.rd).mono ?_; rintro e _ ⟨rfl, rfl⟩)
   have hsb := heap_alloc_new w2 (.cells #[.string s2.next, .int .i64 1, .int .i64 0, .int .i64 3600, .bool true, .bool true, .slice none 0 0] 57)
   have HI3 := Aside0.mk (I2.out.bstep HA.out ((Below.refl w2.heap.size w2).alloc (Nat.le_refl _) (.cells #[.string s2.next, .int .i64 1, .int .i64 0, .int .i64 3600, .bool true, .bool true, .slice none 0 0] 57)))
   have HRO := Aside0.mk (show Kd.S k57 57 (w2.alloc (.cells #[.string s2.next, .int .i64 1, .int .i64 0, .int .i64 3600, .bool true, .bool true, .slice none 0 0] 57)) W.heap.size (fun k => W.heap.size ≤ k ∧ k < w2.heap.size) (.slice A xs.length c) xs from S_kept (Kd.S_mono HRB.out (fun k h_ => ⟨h_.1, h_.2.2.1⟩)) (Kept.below_ (fun _ => False) ((Below.refl w2.heap.size w2).alloc (Nat.le_refl _) _)) (fun _ _ h_ => h_))
   have HGE := I2.out.kept.1
   have HS3 := Aside0.mk (show SitI w0 W g cb w2.heap.size _ s2 xs (.slice A xs.length c) (siteX s2.next) (.slice none 0 0) from ⟨HI3.out, hsb, HRO.out, HGE⟩)
   clear hsb I2 HRB HGE HI3 HRO
   generalize w2.alloc (.cells #[.string s2.next, .int .i64 1, .int .i64 0, .int .i64 3600, .bool true, .bool true, .slice none 0 0] 57) = w3 at *
   generalize w2.heap.size = sb at *
   refine (place_Host.calls k s2.next hh_ ee_ w3 HP.out).mono ?_
   rintro e w4 ⟨rfl, hb4⟩
   have HS4 := Aside0.mk (HS3.out.bstep HA.out hb4)
   clear HS3 hb4 HP
   go_upto_region 5 with fail
   obtain ⟨b1, hb1⟩ : ∃ b1, b1 = (decide (s2.code = 0) && (decide (ee_ ≠ 0) || decide (hh_.toList ≠ s2.next.toList))) := ⟨_, rfl⟩
   go_cut [49] from 34 (fun s49 wc => s49 = .bool b1 ∧ wc = w4)
   case first =>
    have g1 := HS4.out.cf.rd.code_cell
    have i0 : w4.cell? ⟨sb, 0, none⟩ = some (.string s2.next) := (blk_cell HS4.out.st 0).trans rfl
    by_cases c1 : s2.code = 0
    ·
     by_cases c2 : ee_ = 0
     ·
      by_cases c3 : hh_.toList = s2.next.toList
      ·
       have q1 : (s2.code == 0) = true := beq_iff_eq.mpr c1
       have q2 : (ee_ != 0) = false := bne_eq_false_iff_eq.mpr c2
       have q4 : (hh_.toList == s2.next.toList) = true := beq_iff_eq.mpr c3
       have q3 : (hh_.toList != s2.next.toList) = false := bne_eq_false_iff_eq.mpr c3
       have HBE : b1 = false := by rw [hb1]; simp [c1, c2, c3]
       clear hb1 c1 c2 c3
       go_wp2
       go_meet
       case rel => exact ⟨by first | (rw [HBE]; done) | (rw [HBE]; simp; done) | (rw [HBE]; simp [*]; done), rfl⟩
      ·
       have q1 : (s2.code == 0) = true := beq_iff_eq.mpr c1
       have q2 : (ee_ != 0) = false := bne_eq_false_iff_eq.mpr c2
       have q4 : (hh_.toList == s2.next.toList) = false := beq_eq_false_iff_ne.mpr c3
       have q3 : (hh_.toList != s2.next.toList) = true := bne_iff_ne.mpr c3
       have HBE : b1 = true := by rw [hb1]; simp [c1, c2, c3]
       clear hb1 c1 c2 c3
       go_wp2
       go_meet
       case rel => exact ⟨by first | (rw [HBE]; done) | (rw [HBE]; simp; done) | (rw [HBE]; simp [*]; done), rfl⟩
     ·
      have q1 : (s2.code == 0) = true := beq_iff_eq.mpr c1
      have q2 : (ee_ != 0) = true := bne_iff_ne.mpr c2
      have HBE : b1 = true := by rw [hb1]; simp [c1, c2]
      clear hb1 c1 c2
      go_wp2
      go_meet
      case rel => exact ⟨by first | (rw [HBE]; done) | (rw [HBE]; simp; done) | (rw [HBE]; simp [*]; done), rfl⟩
    ·
     have q1 : (s2.code == 0) = false := beq_eq_false_iff_ne.mpr c1
     have HBE : b1 = false := by rw [hb1]; simp [c1]
     clear hb1 c1
     go_wp2
     go_meet
     case rel => exact ⟨by first | (rw [HBE]; done) | (rw [HBE]; simp; done) | (rw [HBE]; simp [*]; done), rfl⟩
   case rest =>
    obtain ⟨rfl, rfl⟩ := hcut
    have HSH := Aside0.mk (show siteH s2 hh_ ee_ = (if b1 = true then s2.fail 30 else s2) from by
     rw [hb1]
     unfold siteH
     by_cases c1 : s2.code = 0
     ·
      by_cases c2 : ee_ = 0
      ·
       by_cases c3 : hh_.toList = s2.next.toList
       ·
        simp [c1, c2, c3]
       ·
        simp [c1, c2, c3]
      ·
       simp [c1, c2]
     ·
      simp [c1])
    rw [HSH.out] at HR
    clear hb1 HSH
    obtain ⟨s3, hs3⟩ : ∃ s3, s3 = (if b1 = true then s2.fail 30 else s2) := ⟨_, rfl⟩
    rw [← hs3] at HR
    have HSM3 := Aside0.mk (show s3.small from by rw [hs3]; split; exact HSM1.out; exact HSM1.out)
    go_upto_if 49 with fail
    go_cut [] from 50 (fun wc => Aside0 (SitI w0 W g cb sb wc s3 xs (.slice A xs.length c) (siteX s2.next) (.slice none 0 0)))
    case first =>
     cases b1 with
     | true =>
      go_wp2_with fail
      refine (rs_fail w0 _ g s2 30 HS4.out.cf.rd).mono ?_
      rintro e w5 ⟨rfl, h_, k_⟩
      have HN := Aside0.mk (HS4.out.gstep HA.out h_ k_)
      clear h_ k_
      go_wp2
      go_meet
      case rel => exact ⟨by rw [hs3]; exact HN.out⟩
     | false =>
      go_wp2
      go_meet
      case rel => exact ⟨by rw [hs3]; exact HS4.out⟩
    case rest =>
     have HS5 := hcut
     clear hcut HS4 hs3
     go_upto_region 7 with fail
     go_cut [8] from 52 (fun s8 wc => s8 = .bool ok ∧ Aside0 (SitI w0 W g cb sb wc s3 xs (.slice A xs.length c) (siteX s2.next) (.slice none 0 0)))
     case first =>
      have hu24 := Tryz.underlying24
      have hu29 := Tryz.underlying57
      have k0 : wc.drew.cell? ⟨cb, 0, none⟩ = some (.slice A xs.length c) := (blk_cell (bD_ HS5.out.cf.cf) 0).trans rfl
      have k1 : wc.drew.cell? ⟨sb, 0, none⟩ = some (.string s2.next) := (blk_cell (bD_ HS5.out.st) 0).trans rfl
      obtain ⟨A2, c2, he2, hle, hC⟩ := Kd.S_reads HS5.out.cf.row
      obtain ⟨rfl, rfl⟩ : A = A2 ∧ c = c2 := by simpa using he2
      have HCC := Aside0.mk (show Kd.C k57 wc.drew A xs.length xs from hC)
      have HLE := Aside0.mk hle
      clear he2 hC hle
      refine start_ (n := 12) (S := fun w' => w'.cell? ⟨cb, 0, none⟩ = some (.slice A xs.length c) ∧ w'.cell? ⟨sb, 0, none⟩ = some (.string s2.next)) (ds := [10]) #[false, false, false, false, false, false, false, false, false, false, false, false] (by kernel_rfl) rfl rfl ⟨k0, k1⟩ (fun hHeld => ?_)
      refine pure_ (i := 0) (N := some 53) (v := ?_) (a' := ?_) #[true, false, false, false, false, false, false, false, false, false, false, false] rfl rfl (by kernel_rfl) (fun _ _ _ h => h) (Or.inl ⟨by rfl, ?_⟩) ?_ ?_
      rotate_left
      ·
       intro w'
       go_simp
       with_reducible rfl
      rotate_left
      ·
       simp only [Act.put, sA_, sZ_, sS_, i64_w, i32_w]
       rfl
      refine pure_ (i := 1) (N := some 54) (v := ?_) (a' := ?_) #[true, true, false, false, false, false, false, false, false, false, false, false] rfl rfl (by kernel_rfl) (fun _ _ _ h => h) (Or.inl ⟨by rfl, ?_⟩) ?_ ?_
      rotate_left
      ·
       intro w'
       go_simp
       with_reducible rfl
      rotate_left
      ·
       simp only [Act.put, sA_, sZ_, sS_, i64_w, i32_w]
       rfl
      refine pure_ (i := 3) (N := some 56) (v := ?_) (a' := ?_) #[true, true, false, true, false, false, false, false, false, false, false, false] rfl rfl (by kernel_rfl) (fun _ _ _ h => h) (Or.inl ⟨by rfl, ?_⟩) ?_ ?_
      rotate_left
      ·
       intro w'
       go_simp
       with_reducible rfl
      rotate_left
      ·
       simp only [Act.put, sA_, sZ_, sS_, i64_w, i32_w]
       rfl
      refine take_ (i := 2) (N := some 55) (v := ?_) (a' := ?_) #[true, true, true, true, false, false, false, false, false, false, false, false] rfl rfl (by kernel_rfl) (fun _ _ _ h => h) (Or.inl ⟨by rfl, ?_⟩) hHeld ?_ ?_
      rotate_left
      ·
       rintro w' ⟨s0, s1⟩
       go_simp
       with_reducible rfl
      rotate_left
      ·
       simp only [Act.put, sA_, sZ_, sS_, i64_w, i32_w]
       rfl
      refine take_ (i := 4) (N := some 57) (v := ?_) (a' := ?_) #[true, true, true, true, true, false, false, false, false, false, false, false] rfl rfl (by kernel_rfl) (fun _ _ _ h => h) (Or.inl ⟨by rfl, ?_⟩) hHeld ?_ ?_
      rotate_left
      ·
       rintro w' ⟨s0, s1⟩
       go_simp
       with_reducible rfl
      rotate_left
      ·
       simp only [Act.put, sA_, sZ_, sS_, i64_w, i32_w]
       rfl
      refine join_ (σ := Option Addr × Nat × Nat) 2 #[true, true, true, true, true, true, true, true, true, true, false, false] (fun s => [(58, .tuple #[.agg #[.string r1, .int .i64 r2, .int .i64 r3, .int .i64 r4, .bool r5, .bool r6, .slice s.1 r7.length s.2.1], .bool ok]), (52, .tuple #[.agg #[.string r1, .int .i64 r2, .int .i64 r3, .int .i64 r4, .bool r5, .bool r6, .slice s.1 r7.length s.2.1], .bool ok]), (59, .agg #[.string r1, .int .i64 r2, .int .i64 r3, .int .i64 r4, .bool r5, .bool r6, .slice s.1 r7.length s.2.1]), (60, .bool ok), (7, .pointer (some ⟨s.2.2, 0, none⟩))]) (fun s w' => Below wc.drew.heap.size wc.drew w' ∧ wc.drew.heap.size ≤ s.2.2 ∧ w'.heap[s.2.2]? = some (.cells #[.string ⟨#[]⟩, .int .i64 0, .int .i64 0, .int .i64 0, .bool false, .bool false, .slice none 0 0] 57 (0, 0))) ?_ ?_
      rotate_left
      ·
       intro hCont
       refine two_ (i := 5) (j := 9) (Ni := some 58) (Nj := some 7) #[true, true, true, true, true, true, false, false, false, false, false, false] #[true, true, true, true, true, false, false, false, false, true, false, false] rfl rfl rfl rfl (by kernel_rfl) (by decide) (by decide) (fun K hK => ?_) (fun K hK => ?_)
       ·
        skip
        refine goes_ Tryz.func31 (by kernel_rfl) rfl #[.agg #[.slice A xs.length c], .string s2.next] (by rfl) rfl rfl (by simp only [mA_, mC_, mN_]; rfl) ?_
        with_reducible refine (conf_Config_Find.calls k A c xs s2.next r1 r2 r3 r4 r5 r6 r7 ok _ HCC.out HLE.out HQ.out).mono ?_
        rintro e w6 ⟨v6, rfl, hR6, hb6⟩
        obtain ⟨A6, c6, rfl⟩ := Kd.R_slice hR6
        have HB6 := Aside0.mk hb6
        clear hR6 hb6
        refine ⟨_, rfl, ?_⟩
        refine hK.out _ _ ⟨(pw_cell_below HB6.out k0), (pw_cell_below HB6.out k1)⟩ (fun hHeld => ?_)
        clear hK K
        refine norm_ (a' := ?_) ?_ ?_
        rotate_left
        ·
         show Act.put _ (some 58) _ = _
         simp only [Act.put, sA_, sZ_, sS_, i64_w, i32_w]
         rfl
        refine pure_ (i := 6) (N := some 52) (v := ?_) (a' := ?_) #[true, true, true, true, true, true, true, false, false, false, false, false] rfl rfl (by kernel_rfl) (fun _ _ _ h => h) (Or.inl ⟨by rfl, ?_⟩) ?_ ?_
        rotate_left
        ·
         intro w'
         go_simp
         with_reducible rfl
        rotate_left
        ·
         simp only [Act.put, sA_, sZ_, sS_, i64_w, i32_w]
         rfl
        refine pure_ (i := 7) (N := some 59) (v := ?_) (a' := ?_) #[true, true, true, true, true, true, true, true, false, false, false, false] rfl rfl (by kernel_rfl) (fun _ _ _ h => h) (Or.inl ⟨by rfl, ?_⟩) ?_ ?_
        rotate_left
        ·
         intro w'
         go_simp
         with_reducible rfl
        rotate_left
        ·
         simp only [Act.put, sA_, sZ_, sS_, i64_w, i32_w]
         rfl
        refine pure_ (i := 8) (N := some 60) (v := ?_) (a' := ?_) #[true, true, true, true, true, true, true, true, true, false, false, false] rfl rfl (by kernel_rfl) (fun _ _ _ h => h) (Or.inl ⟨by rfl, ?_⟩) ?_ ?_
        rotate_left
        ·
         intro w'
         go_simp
         with_reducible rfl
        rotate_left
        ·
         simp only [Act.put, sA_, sZ_, sS_, i64_w, i32_w]
         rfl
        refine one_ (i := 9) (N := some 7) #[true, true, true, true, true, true, true, true, true, true, false, false] rfl rfl (by kernel_rfl) (by decide) (fun K hK => ?_)
        refine value_ (w1 := ?_) (v := ?_) (by rfl) rfl ?_ ?_
        rotate_left 2
        ·
         go_simp
         constructor
         ·
          rfl
         ·
          rfl
        have HBA : Aside0 (Below w6.heap.size w6 (w6.alloc (.cells #[.string ⟨#[]⟩, .int .i64 0, .int .i64 0, .int .i64 0, .bool false, .bool false, .slice none 0 0] 57))) := ⟨(Below.refl _ _).alloc (Nat.le_refl _) _⟩
        refine hK.out _ _ ⟨(pw_cell_below HBA.out (pw_cell_below HB6.out k0)), (pw_cell_below HBA.out (pw_cell_below HB6.out k1))⟩ (fun hHeld => ?_)
        clear hK K
        refine norm_ (a' := ?_) ?_ ?_
        rotate_left
        ·
         show Act.put _ (some 7) _ = _
         simp only [Act.put, sA_, sZ_, sS_, i64_w, i32_w]
         rfl
        exact norm_ (by simp only [putAll, Act.put, sA_, sZ_, sS_]) (hCont (A6, c6, w6.heap.size) _ ⟨below_then' HB6.out HBA.out, HB6.out.size, heap_alloc_new _ _⟩)
       ·
        skip
        refine value_ (w1 := ?_) (v := ?_) (by rfl) rfl ?_ ?_
        rotate_left 2
        ·
         go_simp
         constructor
         ·
          rfl
         ·
          rfl
        have HBA : Aside0 (Below wc.drew.heap.size wc.drew (wc.alloc (.cells #[.string ⟨#[]⟩, .int .i64 0, .int .i64 0, .int .i64 0, .bool false, .bool false, .slice none 0 0] 57)).drew) := ⟨show Below wc.drew.heap.size wc.drew (wc.drew.alloc (.cells #[.string ⟨#[]⟩, .int .i64 0, .int .i64 0, .int .i64 0, .bool false, .bool false, .slice none 0 0] 57)) from (Below.refl _ _).alloc (Nat.le_refl _) _⟩
        have HN5 : Aside0 ((wc.alloc (.cells #[.string ⟨#[]⟩, .int .i64 0, .int .i64 0, .int .i64 0, .bool false, .bool false, .slice none 0 0] 57)).drew.heap[wc.heap.size]? = some (.cells #[.string ⟨#[]⟩, .int .i64 0, .int .i64 0, .int .i64 0, .bool false, .bool false, .slice none 0 0] 57 (0, 0))) := ⟨heap_alloc_new wc _⟩
        generalize (wc.alloc (.cells #[.string ⟨#[]⟩, .int .i64 0, .int .i64 0, .int .i64 0, .bool false, .bool false, .slice none 0 0] 57)).drew = w5 at *
        have k0a := pw_cell_below HBA.out k0
        have k1a := pw_cell_below HBA.out k1
        refine hK.out _ _ ⟨k0a, k1a⟩ (fun hHeld => ?_)
        clear hK K
        refine norm_ (a' := ?_) ?_ ?_
        rotate_left
        ·
         show Act.put _ (some 7) _ = _
         simp only [Act.put, sA_, sZ_, sS_, i64_w, i32_w]
         rfl
        refine one_ (i := 5) (N := some 58) #[true, true, true, true, true, true, false, false, false, true, false, false] rfl rfl (by kernel_rfl) (by decide) (fun K hK => ?_)
        refine goes_ Tryz.func31 (by kernel_rfl) rfl #[.agg #[.slice A xs.length c], .string s2.next] (by rfl) rfl rfl (by simp only [mA_, mC_, mN_]; rfl) ?_
        with_reducible refine (conf_Config_Find.calls k A c xs s2.next r1 r2 r3 r4 r5 r6 r7 ok _ (Kd.C_below HCC.out HBA.out) HLE.out HQ.out).mono ?_
        rintro e w6 ⟨v6, rfl, hR6, hb6⟩
        obtain ⟨A6, c6, rfl⟩ := Kd.R_slice hR6
        have HB6 := Aside0.mk hb6
        clear hR6 hb6
        refine ⟨_, rfl, ?_⟩
        refine hK.out _ _ ⟨(pw_cell_below HB6.out k0a), (pw_cell_below HB6.out k1a)⟩ (fun hHeld => ?_)
        clear hK K
        refine norm_ (a' := ?_) ?_ ?_
        rotate_left
        ·
         show Act.put _ (some 58) _ = _
         simp only [Act.put, sA_, sZ_, sS_, i64_w, i32_w]
         rfl
        refine pure_ (i := 6) (N := some 52) (v := ?_) (a' := ?_) #[true, true, true, true, true, true, true, false, false, true, false, false] rfl rfl (by kernel_rfl) (fun _ _ _ h => h) (Or.inl ⟨by rfl, ?_⟩) ?_ ?_
        rotate_left
        ·
         intro w'
         go_simp
         with_reducible rfl
        rotate_left
        ·
         simp only [Act.put, sA_, sZ_, sS_, i64_w, i32_w]
         rfl
        refine pure_ (i := 7) (N := some 59) (v := ?_) (a' := ?_) #[true, true, true, true, true, true, true, true, false, true, false, false] rfl rfl (by kernel_rfl) (fun _ _ _ h => h) (Or.inl ⟨by rfl, ?_⟩) ?_ ?_
        rotate_left
        ·
         intro w'
         go_simp
         with_reducible rfl
        rotate_left
        ·
         simp only [Act.put, sA_, sZ_, sS_, i64_w, i32_w]
         rfl
        refine pure_ (i := 8) (N := some 60) (v := ?_) (a' := ?_) #[true, true, true, true, true, true, true, true, true, true, false, false] rfl rfl (by kernel_rfl) (fun _ _ _ h => h) (Or.inl ⟨by rfl, ?_⟩) ?_ ?_
        rotate_left
        ·
         intro w'
         go_simp
         with_reducible rfl
        rotate_left
        ·
         simp only [Act.put, sA_, sZ_, sS_, i64_w, i32_w]
         rfl
        exact norm_ (by simp only [putAll, Act.put, sA_, sZ_, sS_]) (hCont (A6, c6, wc.heap.size) _ ⟨below_then' HBA.out HB6.out, Nat.le_refl _, blk_below HN5.out HB6.out⟩)
      rintro ⟨A6, c6, b7⟩ w6 ⟨hf1, hf2, hf3⟩
      have HF1 := Aside0.mk hf1
      have HF2 : Aside0 (wc.heap.size ≤ b7) := ⟨hf2⟩
      have HF3 := Aside0.mk hf3
      clear hf1 hf2 hf3
      have hHeld := (⟨pw_cell_below HF1.out k0, pw_cell_below HF1.out k1⟩ : _ ∧ _)
      refine norm_ (a' := ?_) ?_ ?_
      rotate_left
      ·
       simp only [putAll, Act.put, sA_, sZ_, sS_]
       rfl
      refine last_ (i := 10) (N := none) #[true, true, true, true, true, true, true, true, true, true, true, false] rfl rfl (by kernel_rfl) (by decide) (fun K hK => ?_)
      have f_ := blk_frozen HF3.out
      have i0_ := xC_ HF3.out 0
      have i1_ := xC_ HF3.out 1
      have i2_ := xC_ HF3.out 2
      have i3_ := xC_ HF3.out 3
      have i4_ := xC_ HF3.out 4
      have i5_ := xC_ HF3.out 5
      have i6_ := xC_ HF3.out 6
      have f0_ := f_ 0
      have f1_ := f_ 1
      have f2_ := f_ 2
      have f3_ := f_ 3
      have f4_ := f_ 4
      have f5_ := f_ 5
      have f6_ := f_ 6
      refine skip_ (w1 := ?_) (by rfl) rfl ?_ ?_
      rotate_left
      ·
       go_simp
       rfl
      refine hK.out _ _ ?_
      clear hK K
      refine pure_ (i := 11) (N := some 8) (v := ?_) (a' := ?_) #[true, true, true, true, true, true, true, true, true, true, true, true] rfl rfl (by kernel_rfl) (fun _ _ _ h => h) (Or.inl ⟨by rfl, ?_⟩) ?_ ?_
      rotate_left
      ·
       intro w'
       go_simp
       with_reducible rfl
      rotate_left
      ·
       simp only [Act.put, sA_, sZ_, sS_, i64_w, i32_w]
       rfl
      refine done_ (by kernel_rfl) ?_
      have HB0 := Aside0.mk ((below_drew (Below.refl wc.heap.size wc)).trans HF1.out)
      have HBX : Aside0 (Below wc.heap.size wc (((((((w6.setCell ⟨b7, 0, none⟩ (.string r1)).setCell ⟨b7, 1, none⟩ (.int .i64 r2)).setCell ⟨b7, 2, none⟩ (.int .i64 r3)).setCell ⟨b7, 3, none⟩ (.int .i64 r4)).setCell ⟨b7, 4, none⟩ (.bool r5)).setCell ⟨b7, 5, none⟩ (.bool r6)).setCell ⟨b7, 6, none⟩ (.slice A6 r7.length c6))) := ⟨by refine Below.setCell ?_ HF2.out _; refine Below.setCell ?_ HF2.out _; refine Below.setCell ?_ HF2.out _; refine Below.setCell ?_ HF2.out _; refine Below.setCell ?_ HF2.out _; refine Below.setCell ?_ HF2.out _; exact Below.setCell HB0.out HF2.out _⟩
      generalize (((((((w6.setCell ⟨b7, 0, none⟩ (.string r1)).setCell ⟨b7, 1, none⟩ (.int .i64 r2)).setCell ⟨b7, 2, none⟩ (.int .i64 r3)).setCell ⟨b7, 3, none⟩ (.int .i64 r4)).setCell ⟨b7, 4, none⟩ (.bool r5)).setCell ⟨b7, 5, none⟩ (.bool r6)).setCell ⟨b7, 6, none⟩ (.slice A6 r7.length c6)) = w7 at *
      clear HB0 HF1 HF2 HF3
      go_wp2
      go_meet
      case rel => exact ⟨rfl, ⟨HS5.out.bstep HA.out HBX.out⟩⟩
     case rest =>
      obtain ⟨rfl, HS6⟩ := hcut
      obtain ⟨s4, hs4⟩ : ∃ s4, s4 = (if ok = true then s3.fail 31 else s3) := ⟨_, rfl⟩
      rw [← hs4] at HR
      have HSM4 := Aside0.mk (show s4.small from by rw [hs4]; split; exact HSM3.out; exact HSM3.out)
      clear HS5 HSM1 HQ
      go_upto_if 61 with fail
      go_cut [] from 62 (fun wc => Aside0 (SitI w0 W g cb sb wc s4 xs (.slice A xs.length c) (siteX s2.next) (.slice none 0 0)))
      case first =>
       cases ok with
       | true =>
        go_wp2_with fail
        refine (rs_fail w0 _ g s3 31 HS6.out.cf.rd).mono ?_
        rintro e w8 ⟨rfl, h_, k_⟩
        have HN := Aside0.mk (HS6.out.gstep HA.out h_ k_)
        clear h_ k_
        go_wp2
        go_meet
        case rel => exact ⟨by rw [hs4]; exact HN.out⟩
       | false =>
        go_wp2
        go_meet
        case rel => exact ⟨by rw [hs4]; exact HS6.out⟩
      case rest =>
       have HS7 := hcut
       clear hcut HS6 hs4 HSM3
       go_wp2_with fail
       refine (rs_take w0 _ g s4 HS7.out.cf.rd).mono ?_
       rintro e w8 ⟨rfl, h_, k_⟩
       have HS8 := Aside0.mk (HS7.out.gstep HA.out h_ k_)
       clear h_ k_ HS7
       go_wp2_with fail
       refine (rs_must w0 _ g _ openB HS8.out.cf.rd).mono ?_
       rintro e w9 ⟨rfl, h_, k_⟩
       have HS9 := Aside0.mk (HS8.out.gstep HA.out h_ k_)
       have HSM9 := Aside0.mk (RS.small_must (RS.small_take HSM4.out) openB)
       clear h_ k_ HS8 HSM4
       generalize s4.take.must openB = s9 at *
       go_upto_region 12 with fail
       have hmm := @run_makeMap Tryz.prog
       have HMM := Aside0.mk (seen_made w9)
       have HB1 := Aside0.mk ((Below.refl w9.heap.size w9).alloc (Nat.le_refl _) (.map #[] 0))
       have HLT := Aside0.mk (show w9.heap.size < (w9.alloc (.map #[] 0)).heap.size from HMM.out.choose_spec.1.lt)
       go_upto_block 0 with fail
       generalize w9.alloc (.map #[] 0) = w10 at *
       have HSX := Aside0.mk (blk_lt HS9.out.st)
       have HSA := Aside0.mk (HS9.out.bstep HA.out HB1.out)
       generalize w9.heap.size = mb at *
       have HAP : Aside0 (Apart w0 w10 g sb mb) := ⟨by
        have a1 := HA.out.g_lt
        have a2 := HSA.out.ge
        have a3 := HSX.out
        have a4 := HA.out.c_ge
        have a5 := HA.out.c_lt
        have a6 := HLT.out
        exact ⟨by omega, by omega, by omega, by omega, by omega, a6, by omega, by omega, HA.out.wf⟩⟩
       have HR0 : Aside0 (RuleI w0 w10 g sb mb w10 s9 (siteX s2.next) (.slice none 0 0)) := ⟨⟨HSA.out.cf.rd, HSA.out.st, Kd.R_nil _ _ _ _ _, Kept.refl_ _ _⟩⟩
       clear HS9 HB1
       go_cut [] from 69 (fun wc => ∃ u : Value, Aside0 (RuleI w0 w10 g sb mb wc r0.1 r0.2 u))
       case first =>
        go_wp2_with fail
        go_loopg [] k (fun kq w' => ∃ (s : RS) (x : S57) (seen : List ByteArray) (u : Value), Aside0 (rulesL kq s x seen = some r0) ∧ Aside0 (kq ≤ k) ∧ Aside0 (RuleI w0 w10 g sb mb w' s x u) ∧ Aside0 (SeenIs w' mb seen.length seen) ∧ Aside0 s.small)
        case atStart => exact ⟨s9, _, [], _, HR, ⟨Nat.le_refl _⟩, HR0, HMM, HSM9⟩
        case round =>
         clear HR HR0 HMM HSM9
         obtain ⟨s', x', seen, u, HL, HQ, HI', HM, HSMx⟩ := hrel
         cases gk with
         | zero => exact absurd HL.out (by simp [rulesL])
         | succ k1 =>
          have H := HL.out
          clear HL
          simp only [rulesL] at H
          have g1 := HI'.out.rd.code_cell
          by_cases c1 : s'.code = 0
          ·
           rw [if_pos c1] at H
           have q1 : (s'.code == 0) = true := beq_iff_eq.mpr c1
           clear c1
           by_cases c2 : s'.next.toList = ([125] : List UInt8)
           ·
            rw [if_pos c2] at H
            obtain rfl := Option.some.inj H
            have q2 : (s'.next.toList == ([125] : List UInt8)) = true := beq_iff_eq.mpr c2
            have q3 : (s'.next.toList != ([125] : List UInt8)) = false := bne_eq_false_iff_eq.mpr c2
            clear H c2
            go_wp2_with (go_at_call 58; refine (rs_next w0 wr g s' HI'.out.rd).mono ?_; rintro e _ ⟨rfl, rfl⟩)
            go_meet
            case rel => exact ⟨u, HI'⟩
           ·
            rw [if_neg c2] at H
            have q2 : (s'.next.toList == ([125] : List UInt8)) = false := beq_eq_false_iff_ne.mpr c2
            have q3 : (s'.next.toList != ([125] : List UInt8)) = true := bne_iff_ne.mpr c2
            clear c2
            by_cases c3 : seen.length < 1000
            case neg => rw [if_neg c3] at H; cases H
            rw [if_pos c3] at H
            obtain ⟨⟨sa, xa, seena⟩, hr, H⟩ := Option.bind_eq_some_iff.mp H
            have HH := Aside0.mk H
            have HRF := Aside0.mk hr
            have HC3 := Aside0.mk c3
            clear H hr c3
            go_wp2_with (go_at_call 58; refine (rs_next w0 wr g s' HI'.out.rd).mono ?_; rintro e _ ⟨rfl, rfl⟩)
            refine (rs_rule k1 w0 w10 wr g sb mb seen.length s' x' u seen _ HI'.out HM.out HAP.out HSMx.out (by have h_ := HC3.out; omega) HRF.out).mono ?_
            rintro e w11 ⟨rfl, u2, hI2, hM2⟩
            have HI2 := Aside0.mk hI2
            have HM2 : Aside0 (SeenIs w11 mb seena.length seena) := ⟨by
             have h1 := (ruleF_small HRF.out HSMx.out).2
             simp only at h1
             rw [h1] at hM2 ⊢
             exact hM2⟩
            have HS2 := Aside0.mk (ruleF_small HRF.out HSMx.out).1
            clear hI2 hM2 HI' HM HSMx HRF g1
            go_wp2
            go_roundg k1
            case measure => have h_ := HQ.out; omega
            case rel => exact ⟨sa, xa, seena, u2, HH, ⟨by have h_ := HQ.out; omega⟩, HI2, HM2, HS2⟩
          ·
           rw [if_neg c1] at H
           obtain rfl := Option.some.inj H
           have q1 : (s'.code == 0) = false := beq_eq_false_iff_ne.mpr c1
           clear H c1
           go_wp2
           go_meet
           case rel => exact ⟨u, HI'⟩
       case rest =>
        obtain ⟨u, HI'⟩ := hcut
        have HG : Aside0 (W.heap.size ≤ w10.heap.size) := ⟨HSA.out.cf.kept.1⟩
        have HSW : Aside0 (sb < w10.heap.size) := ⟨by have h1 := HSX.out; have h2 := HLT.out; omega⟩
        have HC1 : Aside0 (CfI w0 W g cb wc r0.1 xs (.slice A xs.length c)) := ⟨⟨HI'.out.rd, blk_kept HSA.out.cf.cf HI'.out.kept (by rintro (h_ | h_ | h_) <;> (have a1 := HA.out.gc; have a2 := HA.out.c_lt; have a3 := HSA.out.ge; have a4 := HSX.out; omega)), Kd.S_mono (S_kept HSA.out.ro HI'.out.kept (fun k ho => by rintro (h_ | h_ | h_) <;> (have a1 := HA.out.g_lt; have a4 := HSX.out; omega))) (fun k h_ => h_.1), Kept.then_ HSA.out.cf.kept HI'.out.kept (fun k h_ => by have a3 := HSA.out.ge; have a4 := HSX.out; rcases h_ with h_ | h_ | h_; exact .inl (.inl h_); exact .inr (by omega); exact .inr (by omega))⟩⟩
        have HRO1 : Aside0 (Kd.S k57 57 wc W.heap.size (fun k => W.heap.size ≤ k ∧ k < sb) (.slice A xs.length c) xs) := ⟨S_kept HSA.out.ro HI'.out.kept (fun k ho => by rintro (h_ | h_ | h_) <;> (have a1 := HA.out.g_lt; have a4 := HSX.out; omega))⟩
        have HHD1 : Aside0 (Kd.R Kd.string 9 wc W.heap.size (fun k => w10.heap.size ≤ k) u r0.2.f6) := ⟨Kd.R_lower HI'.out.row HG.out⟩
        have HGE := Aside0.mk HSA.out.ge
        clear hmm HSA
        go_wp2_with fail
        refine (rs_must w0 wc g _ closeB HI'.out.rd).mono ?_
        rintro e w14 ⟨rfl, h_, k_⟩
        have HC2 := Aside0.mk (HC1.out.gstep HA.out h_ k_)
        have HRO2 := Aside0.mk (S_kept HRO1.out k_ (fun k ho => by have a1 := HA.out.g_lt; omega))
        have HHD2 := Aside0.mk (R_kept HHD1.out k_ (fun k ho => by have a1 := HA.out.g_lt; have a2 := HG.out; omega))
        have BS := Aside0.mk (bD_ (SiteAt.kept HI'.out.site k_ (fun e_ => HAP.out.gs e_.symm)))
        have BC := Aside0.mk (bD_ HC2.out.cf)
        clear h_ k_ HC1 HRO1 HHD1 HI'
        have HSZ : Aside0 (W.heap.size ≤ w14.drew.heap.size) := ⟨HC2.out.kept.1⟩
        have HRO2 : Aside0 (Kd.S k57 57 w14.drew W.heap.size (fun k => W.heap.size ≤ k ∧ k < sb) (.slice A xs.length c) xs) := ⟨Kd.S_drew HRO2.out⟩
        obtain ⟨ys, hys⟩ : ∃ ys, ys = xs ++ [r0.2] := ⟨_, rfl⟩
        have HYS := Aside0.mk hys
        clear hys
        have hu24 := Tryz.underlying24
        have hu29 := Tryz.underlying57
        have k0 : w14.drew.cell? ⟨cb, 0, none⟩ = some (.slice A xs.length c) := xC_ BC.out 0
        have k1 : w14.drew.cell? ⟨sb, 0, none⟩ = some (.string r0.2.f0) := xC_ BS.out 0
        have k2 : w14.drew.cell? ⟨sb, 1, none⟩ = some (.int .i64 r0.2.f1) := xC_ BS.out 1
        have k3 : w14.drew.cell? ⟨sb, 2, none⟩ = some (.int .i64 r0.2.f2) := xC_ BS.out 2
        have k4 : w14.drew.cell? ⟨sb, 3, none⟩ = some (.int .i64 r0.2.f3) := xC_ BS.out 3
        have k5 : w14.drew.cell? ⟨sb, 4, none⟩ = some (.bool r0.2.f4) := xC_ BS.out 4
        have k6 : w14.drew.cell? ⟨sb, 5, none⟩ = some (.bool r0.2.f5) := xC_ BS.out 5
        have k7 : w14.drew.cell? ⟨sb, 6, none⟩ = some (u) := xC_ BS.out 6
        go_upto_region 16 with fail
        refine start_ (n := 11) (S := fun w' => w'.cell? ⟨cb, 0, none⟩ = some (.slice A xs.length c) ∧ w'.cell? ⟨sb, 0, none⟩ = some (.string r0.2.f0) ∧ w'.cell? ⟨sb, 1, none⟩ = some (.int .i64 r0.2.f1) ∧ w'.cell? ⟨sb, 2, none⟩ = some (.int .i64 r0.2.f2) ∧ w'.cell? ⟨sb, 3, none⟩ = some (.int .i64 r0.2.f3) ∧ w'.cell? ⟨sb, 4, none⟩ = some (.bool r0.2.f4) ∧ w'.cell? ⟨sb, 5, none⟩ = some (.bool r0.2.f5) ∧ w'.cell? ⟨sb, 6, none⟩ = some (u)) (ds := [10]) #[false, false, false, false, false, false, false, false, false, false, false] (by kernel_rfl) rfl rfl ⟨k0, k1, k2, k3, k4, k5, k6, k7⟩ (fun hHeld => ?_)
        refine pure_ (i := 0) (N := some 85) (v := ?_) (a' := ?_) #[true, false, false, false, false, false, false, false, false, false, false] rfl rfl (by kernel_rfl) (fun _ _ _ h => h) (Or.inl ⟨by rfl, ?_⟩) ?_ ?_
        rotate_left
        ·
         intro w'
         go_simp
         with_reducible rfl
        rotate_left
        ·
         simp only [Act.put, sA_, sZ_, sS_, i64_w, i32_w]
         rfl
        refine pure_ (i := 1) (N := some 86) (v := ?_) (a' := ?_) #[true, true, false, false, false, false, false, false, false, false, false] rfl rfl (by kernel_rfl) (fun _ _ _ h => h) (Or.inl ⟨by rfl, ?_⟩) ?_ ?_
        rotate_left
        ·
         intro w'
         go_simp
         with_reducible rfl
        rotate_left
        ·
         simp only [Act.put, sA_, sZ_, sS_, i64_w, i32_w]
         rfl
        refine pure_ (i := 2) (N := some 87) (v := ?_) (a' := ?_) #[true, true, true, false, false, false, false, false, false, false, false] rfl rfl (by kernel_rfl) (fun _ _ _ h => h) (Or.inl ⟨by rfl, ?_⟩) ?_ ?_
        rotate_left
        ·
         intro w'
         go_simp
         with_reducible rfl
        rotate_left
        ·
         simp only [Act.put, sA_, sZ_, sS_, i64_w, i32_w]
         rfl
        refine pure_ (i := 3) (N := some 88) (v := ?_) (a' := ?_) #[true, true, true, true, false, false, false, false, false, false, false] rfl rfl (by kernel_rfl) (fun _ _ _ h => h) (Or.inl ⟨by rfl, ?_⟩) ?_ ?_
        rotate_left
        ·
         intro w'
         go_simp
         with_reducible rfl
        rotate_left
        ·
         simp only [Act.put, sA_, sZ_, sS_, i64_w, i32_w]
         rfl
        refine take_ (i := 4) (N := some 89) (v := ?_) (a' := ?_) #[true, true, true, true, true, false, false, false, false, false, false] rfl rfl (by kernel_rfl) (fun _ _ _ h => h) (Or.inl ⟨by rfl, ?_⟩) hHeld ?_ ?_
        rotate_left
        ·
         rintro w' ⟨s0, s1, s2, s3, s4, s5, s6, s7⟩
         go_simp
         with_reducible rfl
        rotate_left
        ·
         simp only [Act.put, sA_, sZ_, sS_, i64_w, i32_w]
         rfl
        refine take_ (i := 5) (N := some 90) (v := ?_) (a' := ?_) #[true, true, true, true, true, true, false, false, false, false, false] rfl rfl (by kernel_rfl) (fun _ _ _ h => h) (Or.inl ⟨by rfl, ?_⟩) hHeld ?_ ?_
        rotate_left
        ·
         rintro w' ⟨s0, s1, s2, s3, s4, s5, s6, s7⟩
         go_simp
         with_reducible rfl
        rotate_left
        ·
         simp only [Act.put, sA_, sZ_, sS_, i64_w, i32_w]
         rfl
        refine one_ (i := 6) (N := some 91) #[true, true, true, true, true, true, true, false, false, false, false] rfl rfl (by kernel_rfl) (by decide) (fun K hK => ?_)
        refine value_ (w1 := ?_) (v := ?_) (by rfl) rfl ?_ ?_
        rotate_left 2
        ·
         go_simp
         constructor
         ·
          rfl
         ·
          rfl
        refine hK.out _ _ ⟨((Lib.cell_of_heap (bA_ BC.out _) 0).trans rfl), ((Lib.cell_of_heap (bA_ BS.out _) 0).trans rfl), ((Lib.cell_of_heap (bA_ BS.out _) 1).trans rfl), ((Lib.cell_of_heap (bA_ BS.out _) 2).trans rfl), ((Lib.cell_of_heap (bA_ BS.out _) 3).trans rfl), ((Lib.cell_of_heap (bA_ BS.out _) 4).trans rfl), ((Lib.cell_of_heap (bA_ BS.out _) 5).trans rfl), ((Lib.cell_of_heap (bA_ BS.out _) 6).trans rfl)⟩ (fun hHeld => ?_)
        clear hK K
        refine norm_ (a' := ?_) ?_ ?_
        rotate_left
        ·
         show Act.put _ (some 91) _ = _
         simp only [Act.put, sA_, sZ_, sS_, i64_w, i32_w]
         rfl
        refine one_ (i := 7) (N := some 92) #[true, true, true, true, true, true, true, true, false, false, false] rfl rfl (by kernel_rfl) (by decide) (fun K hK => ?_)
        refine Kd.S_append_step k57 (w0 := w14.drew) (W := w14.drew) W.heap.size (by rfl) (.tmp 89) (.tmp 91) 22 57 (.agg #[.string ⟨#[]⟩, .int .i64 0, .int .i64 0, .int .i64 0, .bool false, .bool false, .slice none 0 0]) 72 rfl Tryz.underlying22 infoSite_ rfl (by decide) (by omega) (.slice A xs.length c) xs r0.2 [.string r0.2.f0, .int .i64 r0.2.f1, .int .i64 r0.2.f2, .int .i64 r0.2.f3, .bool r0.2.f4, .bool r0.2.f5, u] (fun k => W.heap.size ≤ k) (fun k => w10.heap.size ≤ k) (by rfl) (by rfl) (k57_mkM _ _ _ _ HHD2.out) (fun k hk => ⟨Nat.le_trans HG.out hk, fun e_ => by have h1_ := (Kd.S_R HRO2.out).1 k e_.symm; have h2_ := HSW.out; omega⟩) (fun k hk => Nat.le_trans HSZ.out hk) (Kd.S_mono HRO2.out (fun k h_ => ⟨h_.1, fun h2_ => by have h3_ := HSW.out; have h4_ := h_.2; have h5_ := h2_; omega⟩)) (Below.refl _ _) HSZ.out (by have h_ := HLN.out; omega) ?_
        intro v1 w1 r1 hb1 hg1 _
        rw [← HYS.out] at r1
        obtain ⟨A1, cap1, rfl⟩ := Kd.S_slice r1
        have HR1 := Aside0.mk r1
        have HB1 := Aside0.mk hb1
        have HG1 := Aside0.mk hg1
        clear r1 hb1 hg1
        have BC1 := Aside0.mk (blk_low BC.out HB1.out HA.out.c_lt)
        have BS1 := Aside0.mk ((HG1.out.block sb (blk_lt BS.out) (fun e_ => by have h1_ := (Kd.S_R HRO2.out).1 sb e_.symm; omega)).trans BS.out)
        refine hK.out _ _ ⟨((Lib.cell_of_heap BC1.out 0).trans rfl), ((Lib.cell_of_heap BS1.out 0).trans rfl), ((Lib.cell_of_heap BS1.out 1).trans rfl), ((Lib.cell_of_heap BS1.out 2).trans rfl), ((Lib.cell_of_heap BS1.out 3).trans rfl), ((Lib.cell_of_heap BS1.out 4).trans rfl), ((Lib.cell_of_heap BS1.out 5).trans rfl), ((Lib.cell_of_heap BS1.out 6).trans rfl)⟩ (fun hHeld => ?_)
        clear hK K
        refine norm_ (a' := ?_) ?_ ?_
        rotate_left
        ·
         show Act.put _ (some 92) _ = _
         simp only [Act.put, sA_, sZ_, sS_, i64_w, i32_w]
         rfl
        refine pure_ (i := 8) (N := some 93) (v := ?_) (a' := ?_) #[true, true, true, true, true, true, true, true, true, false, false] rfl rfl (by kernel_rfl) (fun _ _ _ h => h) (Or.inl ⟨by rfl, ?_⟩) ?_ ?_
        rotate_left
        ·
         intro w'
         go_simp
         with_reducible rfl
        rotate_left
        ·
         simp only [Act.put, sA_, sZ_, sS_, i64_w, i32_w]
         rfl
        refine pure_ (i := 9) (N := some 94) (v := ?_) (a' := ?_) #[true, true, true, true, true, true, true, true, true, true, false] rfl rfl (by kernel_rfl) (fun _ _ _ h => h) (Or.inl ⟨by rfl, ?_⟩) ?_ ?_
        rotate_left
        ·
         intro w'
         go_simp
         with_reducible rfl
        rotate_left
        ·
         simp only [Act.put, sA_, sZ_, sS_, i64_w, i32_w]
         rfl
        refine last_ (i := 10) (N := none) #[true, true, true, true, true, true, true, true, true, true, true] rfl rfl (by kernel_rfl) (by decide) (fun K hK => ?_)
        have f3 := blk_frozen BC1.out 0
        have i3 := xC_ BC1.out 0
        refine skip_ (w1 := ?_) (by rfl) rfl ?_ ?_
        rotate_left
        ·
         go_simp
         rfl
        refine hK.out _ _ ?_
        clear hK K
        refine done_ (by kernel_rfl) ?_
        have HFIN : Aside0 (CfI w0 W g cb (w1.setCell ⟨cb, 0, none⟩ (.slice A1 ys.length cap1)) (r0.1.must closeB) ys (.slice A1 ys.length cap1)) := ⟨CfI.put HC2.out HA.out HR1.out HB1.out⟩
        generalize w1.setCell ⟨cb, 0, none⟩ (.slice A1 ys.length cap1) = w15 at *
        go_wp2
        go_end0
        rw [← HYS.out]
        exact ⟨rfl, _, HFIN.out⟩

end Go.Proofs.YtlncpbnadlpihaaGreatDoor.PAll
