import Derived.Deep.Cut
import Derived.Deep.CutRange
import Derived.Deep.CutBlock
import Derived.Test.YtfcifigemiafgaaDoorPAllx0
import Derived.Test.YtfcifigemiafgaaDoorPAllx1
import Derived.Test.YtfcifigemiafgaaDoorPAllx2
import Derived.Test.YtfcifigemiafgaaDoorPAllx6
import Derived.Test.YtfcifigemiafgaaDoorPAllx7
import Derived.Test.YtfcifigemiafgaaDoorPAllx8
import Derived.Test.YtfcifigemiafgaaDoorPAllx11
namespace Go.Proofs.YtfcifigemiafgaaDoor.PAll
open Go.RowKit Go.Proofs.YtfcifigemiafgaaDoorW.PrintWords Go.Proofs.YtfcifigemiafgaaDoorW.PrintLast Go.Proofs.YtfcifigemiafgaaDoorW.PrintMore
attribute [local go_sem] max2_int min2_int max_two min_two max_three min_three max_four min_four   -- for this text's walks alone
set_option linter.unusedVariables false
set_option linter.unusedSimpArgs false

attribute [local go_sem high] eqA48
/-! ### conf_Read: function 16, by hand -/
-- over 23
theorem results_cc {P : Program} {fn : Func} {p q : Tmp} {ty ty2 : TypeId} (h : fn.results = #[.cell p ty, .cell q ty2]) (tmps : Array Value) (w : World) (g : Nat) (t : TypeId) (cs : Array Value) (fr : Nat × Nat) (d : TypeDesc) (g2 : Nat) (t2 : TypeId) (cs2 : Array Value) (fr2 : Nat × Nat) (d2 : TypeDesc)
  (hp : tmps.getD p undef = .pointer (some ⟨g, 0, none⟩)) (hg : w.heap[g]? = some (.cells cs t fr))
  (hu : P.underlying ty = some d) (hd : (match d with | .struct _ | .array _ _ => true | _ => false) = true) (hi : (P.info? ty).map (·.size) = some cs.size)
  (hp2 : tmps.getD q undef = .pointer (some ⟨g2, 0, none⟩)) (hg2 : w.heap[g2]? = some (.cells cs2 t2 fr2))
  (hu2 : P.underlying ty2 = some d2) (hd2 : (match d2 with | .struct _ | .array _ _ => true | _ => false) = true) (hi2 : (P.info? ty2).map (·.size) = some cs2.size) :
  (results fn tmps).run P w = .ok (.tuple #[.agg cs, .agg cs2]) w := by
 have hp' : tmps[p]?.getD undef = .pointer (some ⟨g, 0, none⟩) := by simpa using hp
 have hp2' : tmps[q]?.getD undef = .pointer (some ⟨g2, 0, none⟩) := by simpa using hp2
 simp [results, h, hp', hp2', asAddr, run_loadVar_row w g t ty cs fr d hg hu hd hi, run_loadVar_row w g2 t2 ty2 cs2 fr2 d2 hg2 hu2 hd2 hi2]
def readL : Nat → RS → List S29 → Option (RS × List S29)
 | 0, _, _ => none
 | k + 1, s, xs => if s.code = 0 then (if 1 < s.ws.length then (if xs.length ≤ 8 then (siteF k s xs).bind fun r => readL k r.1 (xs ++ [r.2]) else none) else some (s, xs)) else some (s, xs)
def conf_Read.f (k : Nat) (t : ByteArray) : Option (List S29 × Int × Int) :=
 if 4096 < t.size then some ([], 32, 1) else (wordsF k t).bind fun ws =>
  if 0 < ws.length ∧ ws.all (fun p => decide (p.1.size ≤ 4096)) = true then (readL k ⟨ws, 0, 0⟩ []).bind fun r => if r.1.code = 0 ∧ r.1.line = 0 then some (r.2, 0, 0) else some ([], r.1.code, r.1.line) else none
theorem readL_mono : ∀ k s xs, LeO (readL k s xs) (readL (k + 1) s xs)
 | 0, _, _ => fun r h => by simp [readL] at h
 | k + 1, s, xs => by
  have ih := readL_mono k
  unfold readL
  repeat' (with_reducible first | exact ih _ _ | exact siteF_mono _ _ _ | exact lR_ | refine LeO.ite ?_ ?_ | refine LeO.bind ?_ (fun _ => ?_))
theorem conf_Read.mono : ∀ k t, LeO (conf_Read.f k t) (conf_Read.f (k + 1) t) := by
 intro k t
 unfold conf_Read.f
 repeat' (with_reducible first | exact readL_mono _ _ _ | exact wordsF_mono _ _ | exact lR_ | refine LeO.ite ?_ ?_ | refine LeO.bind ?_ (fun _ => ?_))
theorem rulesL_small : ∀ k s x seen r, rulesL k s x seen = some r → s.small → r.1.small
 | 0, _, _, _, _ => fun h => by simp [rulesL] at h
 | k + 1, s, x, seen, r => fun h hs => by
  have ih := rulesL_small k
  simp only [rulesL] at h
  split at h
  ·
   split at h
   ·
    obtain rfl := Option.some.inj h
    exact hs
   ·
    split at h
    ·
     obtain ⟨p, hp, h⟩ := Option.bind_eq_some_iff.mp h
     exact ih _ _ _ _ h (ruleF_small hp hs).1
    ·
     cases h
  ·
   obtain rfl := Option.some.inj h
   exact hs
theorem siteF_small {k : Nat} {s : RS} {xs : List S29} {r : RS × S29} (h : siteF k s xs = some r) (hs : s.small) : r.1.small := by
 have h1 : (siteA s xs.length).small := by
  unfold siteA
  refine RS.small_must ?_ _
  split
  ·
   exact RS.small_fail hs _
  ·
   exact hs
 unfold siteF at h
 obtain ⟨p, _, h⟩ := Option.bind_eq_some_iff.mp h
 obtain ⟨q, _, h⟩ := Option.bind_eq_some_iff.mp h
 obtain ⟨a, ha, h⟩ := Option.bind_eq_some_iff.mp h
 obtain rfl := Option.some.inj h
 have h2 : (siteH (siteA s xs.length) p.1 p.2).small := by
  unfold siteH
  split
  ·
   exact RS.small_fail h1 _
  ·
   exact h1
 refine RS.small_must (rulesL_small _ _ _ _ _ ha (RS.small_must (RS.small_take ?_) _)) _
 split
 ·
  exact RS.small_fail h2 _
 ·
  exact h2
/-- Where Read's loop begins: the reader and the config are made. -/
theorem CfI.start {w0 : World} {base : Nat} {A : Option Addr} {c : Nat} {ws : List WD} (hR : Kd.R kW 79 w0 base (fun _ => True) (.slice A ws.length c) ws) (hne : 0 < ws.length) (hwf : WF w0) :
  CfI w0 ((w0.alloc (.cells #[.slice A ws.length c, .int .i64 0, .int .i64 0] 64)).alloc (.cells #[.slice none 0 0] 24)) w0.heap.size (w0.heap.size + 1) ((w0.alloc (.cells #[.slice A ws.length c, .int .i64 0, .int .i64 0] 64)).alloc (.cells #[.slice none 0 0] 24)) ⟨ws, 0, 0⟩ [] (.slice none 0 0) ∧
  CfA w0 ((w0.alloc (.cells #[.slice A ws.length c, .int .i64 0, .int .i64 0] 64)).alloc (.cells #[.slice none 0 0] 24)) w0.heap.size (w0.heap.size + 1) := by
 have s1 : (w0.alloc (.cells #[.slice A ws.length c, .int .i64 0, .int .i64 0] 64)).heap.size = w0.heap.size + 1 := by simp
 have s2 : ((w0.alloc (.cells #[.slice A ws.length c, .int .i64 0, .int .i64 0] 64)).alloc (.cells #[.slice none 0 0] 24)).heap.size = w0.heap.size + 2 := by simp
 have h1 := heap_alloc_new w0 (.cells #[.slice A ws.length c, .int .i64 0, .int .i64 0] 64)
 have h2 := heap_alloc_new (w0.alloc (.cells #[.slice A ws.length c, .int .i64 0, .int .i64 0] 64)) (.cells #[.slice none 0 0] 24)
 rw [s1] at h2
 have hb : Below w0.heap.size w0 ((w0.alloc (.cells #[.slice A ws.length c, .int .i64 0, .int .i64 0] 64)).alloc (.cells #[.slice none 0 0] 24)) := ((Below.refl w0.heap.size w0).alloc (Nat.le_refl _) _).alloc (by rw [s1]; omega) _
 obtain ⟨gb, cap, he, _, _, _⟩ := Kd.R_form hR hne
 obtain ⟨rfl, rfl⟩ : A = some ⟨gb, 0, none⟩ ∧ c = cap := by simpa using he
 obtain ⟨_, hle, hC⟩ := Kd.R_reads' hR
 refine ⟨⟨⟨⟨gb, 0, ws.length, c, rfl, bA_ h1 _, hle, fun j hj => ?_⟩, List.length_pos_iff.1 hne, hb, Nat.le_refl _⟩, h2, Kd.S_nil _ _ _ _ _, Kept.refl_ _ _⟩, ⟨by omega, by rw [s2]; omega, by rw [s2]; omega, by omega, hwf⟩⟩
 have hj' : j < ws.length := hj
 obtain ⟨ad, cc, hA, _, hK, hcells⟩ := Kd.C_get hC (emptyB, 0) (j : Int) (by omega) (by omega)
 obtain rfl := Option.some.inj hA
 obtain ⟨_, _, rfl, rfl, rfl⟩ := hK
 have e0 := hcells 0 _ rfl
 have e1 := hcells 1 _ rfl
 rw [add_plain] at e0 e1
 rw [Int.toNat_natCast] at e0 e1
 have hg : ws.getD j (emptyB, 0) = ws[j] := by simp [List.getD, hj]
 rw [hg] at e0 e1
 exact ⟨by rw [Nat.zero_add]; exact e0, by rw [Nat.zero_add]; exact e1⟩

set_option maxHeartbeats 4000000 in
set_option maxRecDepth 100000 in
theorem conf_Read.calls (k : Nat) (t : ByteArray) (r1 : List S29) (r2 r3 : Int) (w : World) (hrW : WF w) (h : conf_Read.f k t = some (r1, r2, r3)) :
  Calls Tryd.prog 16 #[.string t] w fun e w' => ∃ v0_, e = .returned (.tuple #[.agg #[v0_], .agg #[.int .i64 r2, .int .i64 r3]]) ∧ Kd.S k29 29 w' w.heap.size (fun _ => True) v0_ r1 ∧ Below w.heap.size w w' := by
 have HWF := Aside0.mk hrW
 clear hrW
 have hu24 := Tryd.underlying24
 have hu48 := Tryd.underlying48
 have hz1 : (w.alloc (.cells #[.slice none 0 0] 24)).heap.size = w.heap.size + 1 := by simp
 have B2 : Aside0 (((w.alloc (.cells #[.slice none 0 0] 24)).alloc (.cells #[.int .i64 0, .int .i64 0] 48)).heap[w.heap.size]? = some (.cells #[.slice none 0 0] 24 (0, 0))) := ⟨bA_ (heap_alloc_new w _) _⟩
 have B3 : Aside0 (((w.alloc (.cells #[.slice none 0 0] 24)).alloc (.cells #[.int .i64 0, .int .i64 0] 48)).heap[w.heap.size + 1]? = some (.cells #[.int .i64 0, .int .i64 0] 48 (0, 0))) := ⟨by have h_ := heap_alloc_new (w.alloc (.cells #[.slice none 0 0] 24)) (.cells #[.int .i64 0, .int .i64 0] 48); rw [hz1] at h_; exact h_⟩
 have HB : Aside0 (Below w.heap.size w ((w.alloc (.cells #[.slice none 0 0] 24)).alloc (.cells #[.int .i64 0, .int .i64 0] 48))) := ⟨((Below.refl w.heap.size w).alloc (Nat.le_refl _) _).alloc (by rw [hz1]; omega) _⟩
 clear hz1
 unfold conf_Read.f at h
 by_cases c0 : 4096 < t.size
 ·
  rw [if_pos c0] at h
  obtain ⟨rfl, rfl, rfl⟩ : [] = r1 ∧ 32 = r2 ∧ 1 = r3 := by simpa using h
  have q0 : decide ((t.size : Int) > 4096) = true := decide_eq_true (by omega)
  have q1 : decide (4096 < (t.size : Int)) = true := decide_eq_true (by omega)
  clear c0 h
  go_enter Tryd.func16, Tryd.ntmps16
  go_upto_region 1 with fail
  generalize ((w.alloc (.cells #[.slice none 0 0] 24)).alloc (.cells #[.int .i64 0, .int .i64 0] 48)) = w2 at *
  have z2 : w2.cell? ⟨w.heap.size, 0, none⟩ = some (.slice none 0 0) := xC_ B2.out 0
  have z3 : w2.cell? ⟨w.heap.size + 1, 0, none⟩ = some (.int .i64 0) := xC_ B3.out 0
  have z4 : w2.cell? ⟨w.heap.size + 1, 1, none⟩ = some (.int .i64 0) := xC_ B3.out 1
  have y2 : w2.frozen? ⟨w.heap.size, 0, none⟩ = false := blk_frozen B2.out 0
  have y3 : w2.frozen? ⟨w.heap.size + 1, 0, none⟩ = false := blk_frozen B3.out 0
  have y4 : w2.frozen? ⟨w.heap.size + 1, 1, none⟩ = false := blk_frozen B3.out 1
  go_wp2
  (try simp only [Exit.inBlock, Exit.then])
  refine bodyPost_ret (results_cc rfl _ _ w.heap.size 24 #[.slice none 0 0] (0, 0) _ (w.heap.size + 1) 48 #[.int .i64 32, .int .i64 1] (0, 0) _ rfl (blk_ne (blk_ne (blk_put B2.out 0 (.slice none 0 0) rfl) (by omega)) (by omega)) hu24 rfl (by kernel_rfl) rfl (blk_put (blk_put (blk_ne B3.out (by omega)) 0 (.int .i64 32) rfl) 1 (.int .i64 1) rfl) hu48 rfl (by kernel_rfl)) rfl ?_
  exact ⟨_, rfl, Kd.S_nil _ _ _ _ _, ((HB.out.setCell (by simp) _).setCell (by simp) _).setCell (by simp) _⟩
 rw [if_neg c0] at h
 have q0 : decide ((t.size : Int) > 4096) = false := decide_eq_false (by omega)
 have q1 : decide (4096 < (t.size : Int)) = false := decide_eq_false (by omega)
 clear c0
 obtain ⟨ws, hw, h⟩ := Option.bind_eq_some_iff.mp h
 by_cases c1 : 0 < ws.length ∧ ws.all (fun p => decide (p.1.size ≤ 4096)) = true
 case neg => rw [if_neg c1] at h; cases h
 rw [if_pos c1] at h
 obtain ⟨r0, hl, h⟩ := Option.bind_eq_some_iff.mp h
 have HW := Aside0.mk hw
 have HL := Aside0.mk hl
 have HE := Aside0.mk h
 have HN := Aside0.mk c1.1
 have HSM : Aside0 (RS.small ⟨ws, 0, 0⟩) := ⟨fun p hp => by have h_ := List.all_eq_true.1 c1.2 p hp; have h2_ := of_decide_eq_true h_; omega⟩
 clear hw hl h c1
 go_enter Tryd.func16, Tryd.ntmps16
 go_upto_region 1 with fail
 generalize ((w.alloc (.cells #[.slice none 0 0] 24)).alloc (.cells #[.int .i64 0, .int .i64 0] 48)) = w2 at *
 go_wp2_with fail
 refine (words_calls k w2 t ws HW.out).mono ?_
 rintro e w3 ⟨v, rfl, hR, hb3⟩
 obtain ⟨A, c, rfl⟩ := Kd.R_slice hR
 have HST := Aside0.mk (CfI.start hR HN.out ((HWF.out.below HB.out).below hb3))
 have HB3 := Aside0.mk hb3
 clear hR hb3 HW
 go_upto_block 0 with fail
 have HW3 : Aside0 (Below w3.heap.size w3 ((w3.alloc (.cells #[.slice A ws.length c, .int .i64 0, .int .i64 0] 64)).alloc (.cells #[.slice none 0 0] 24))) := ⟨HST.out.1.rd.2.2.1⟩
 have blk_lt2 := Aside0.mk (blk_lt B3.out)
 have HA := Aside0.mk HST.out.2
 have HI := Aside0.mk HST.out.1
 clear HST
 generalize ((w3.alloc (.cells #[.slice A ws.length c, .int .i64 0, .int .i64 0] 64)).alloc (.cells #[.slice none 0 0] 24)) = W at *
 have HG : Aside0 (w2.heap.size ≤ w3.heap.size) := ⟨HB3.out.size⟩
 generalize hcb : w3.heap.size + 1 = cb at HA HI ⊢
 have HCB := Aside0.mk hcb
 clear hcb
 generalize hgg : w3.heap.size = g at HA HI ⊢
 have HGG := Aside0.mk hgg
 clear hgg
 go_cut [] from 31 (fun wc => ∃ v : Value, Aside0 (CfI w3 W g cb wc r0.1 r0.2 v))
 case first =>
  go_wp2_with fail
  go_loopg [] k (fun kq w' => ∃ (s : RS) (xs : List S29) (v : Value), Aside0 (readL kq s xs = some r0) ∧ Aside0 (kq ≤ k) ∧ Aside0 (CfI w3 W g cb w' s xs v) ∧ Aside0 s.small)
  case atStart => exact ⟨_, [], _, HL, ⟨Nat.le_refl _⟩, HI, HSM⟩
  case round =>
   clear HL HI HSM
   obtain ⟨s, xs, v, HL, HQ, HI, HSM⟩ := hrel
   cases gk with
   | zero => exact absurd HL.out (by simp [readL])
   | succ k1 =>
    have H := HL.out
    clear HL
    simp only [readL] at H
    obtain ⟨wb, off, n, cap, hn, hh, _, _⟩ := HI.out.rd.1
    have g0 := (blk_cell hh 0).trans rfl
    have g1 := (blk_cell hh 1).trans rfl
    clear hh
    by_cases c1 : s.code = 0
    ·
     rw [if_pos c1] at H
     have p1 : (s.code == 0) = true := beq_iff_eq.mpr c1
     clear c1
     by_cases c2 : 1 < s.ws.length
     ·
      rw [if_pos c2] at H
      have p2 : decide ((n : Int) > 1) = true := decide_eq_true (by omega)
      have p3 : decide (1 < (n : Int)) = true := decide_eq_true (by omega)
      have p4 : decide (1 < n) = true := decide_eq_true (by omega)
      clear c2 hn
      by_cases c3 : xs.length ≤ 8
      case neg => rw [if_neg c3] at H; cases H
      rw [if_pos c3] at H
      obtain ⟨⟨s2, x2⟩, hs, H⟩ := Option.bind_eq_some_iff.mp H
      have HS := Aside0.mk hs
      have HH := Aside0.mk H
      have HC3 := Aside0.mk c3
      clear hs H c3
      go_wp2_with fail
      refine (rs_site k1 w3 W wr g cb s xs v _ HI.out HA.out HSM.out HC3.out HS.out).mono ?_
      rintro e w5 ⟨rfl, v5, hI5⟩
      have HI5 := Aside0.mk hI5
      have HS5 := Aside0.mk (siteF_small HS.out HSM.out)
      clear hI5 HI HSM HS g0 g1
      go_wp2
      go_roundg k1
      case measure => have h_ := HQ.out; omega
      case rel => exact ⟨_, _, v5, HH, ⟨by have h_ := HQ.out; omega⟩, HI5, HS5⟩
     ·
      rw [if_neg c2] at H
      obtain rfl := Option.some.inj H
      have p2 : decide ((n : Int) > 1) = false := decide_eq_false (by omega)
      have p3 : decide (1 < (n : Int)) = false := decide_eq_false (by omega)
      have p4 : decide (1 < n) = false := decide_eq_false (by omega)
      clear c2 H hn
      go_wp2
      go_meet
      case rel => exact ⟨v, HI⟩
    ·
     rw [if_neg c1] at H
     obtain rfl := Option.some.inj H
     have p1 : (s.code == 0) = false := beq_eq_false_iff_ne.mpr c1
     clear c1 H
     go_wp2
     go_meet
     case rel => exact ⟨v, HI⟩
 case rest =>
  clear HL HI HSM
  obtain ⟨v, HC⟩ := hcut
  obtain ⟨wb, off, n, cap, hn, hh, _, _⟩ := HC.out.rd.1
  obtain ⟨cd, hcd⟩ : ∃ cd, cd = r0.1.code := ⟨_, rfl⟩
  obtain ⟨ln, hln⟩ : ∃ ln, ln = r0.1.line := ⟨_, rfl⟩
  rw [← hcd, ← hln] at hh HE
  have BG := Aside0.mk hh
  have g1 : wc.cell? ⟨g, 1, none⟩ = some (.int .i64 cd) := (blk_cell hh 1).trans rfl
  have g2 : wc.cell? ⟨g, 2, none⟩ = some (.int .i64 ln) := (blk_cell hh 2).trans rfl
  clear hh hn hcd hln
  have K2 : Aside0 (Kept w2 wc (fun _ => False)) := ⟨Kept.then_ (Kept.then_ (Kept.below_ _ HB3.out) (show Kept w3 W (fun _ => False) from Kept.below_ _ HW3.out) (fun _ h_ => h_.elim)) HC.out.kept (fun k h_ => by have h1_ := HG.out; have h2_ := HGG.out; have h3_ := HCB.out; rcases h_ with h_ | h_ <;> exact .inr (by omega))⟩
  have B2 := Aside0.mk (blk_kept B2.out K2.out id)
  have B3 := Aside0.mk (blk_kept B3.out K2.out id)
  have HBC : Aside0 (Below w.heap.size w wc) := ⟨(HB.out.trans (below_lower HB3.out HB.out.size)).trans (below_lower HC.out.rd.2.2.1 (by have h_ := HB.out.size; have h2_ := HG.out; omega))⟩
  by_cases c4 : cd = 0 ∧ ln = 0
  ·
   have FAR : Aside0 (∀ k, W.heap.size ≤ k → k ≠ w.heap.size ∧ k ≠ w.heap.size + 1) := ⟨fun k hk => by have a1 := HA.out.g_lt; have a2 := HG.out; have a3 := HGG.out; have a4 := blk_lt2.out; exact ⟨by omega, by omega⟩⟩
   have FARW : Aside0 (w.heap.size ≤ W.heap.size) := ⟨by have a1 := HA.out.g_lt; have a2 := HG.out; have a3 := HGG.out; have a4 := blk_lt2.out; omega⟩
   obtain ⟨rfl, rfl⟩ := c4
   have hE := HE.out
   rw [if_pos ⟨rfl, rfl⟩] at hE
   obtain ⟨rfl, rfl, rfl⟩ : r0.2 = r1 ∧ 0 = r2 ∧ 0 = r3 := by simpa using hE
   clear hE HE
   obtain ⟨A5, c5, rfl⟩ := Kd.S_slice HC.out.row
   have cc : wc.cell? ⟨cb, 0, none⟩ = some (.slice A5 r0.2.length c5) := (blk_cell HC.out.cf 0).trans rfl
   have z2 : wc.cell? ⟨w.heap.size, 0, none⟩ = some (.slice none 0 0) := xC_ B2.out 0
   have z3 : wc.cell? ⟨w.heap.size + 1, 0, none⟩ = some (.int .i64 0) := xC_ B3.out 0
   have z4 : wc.cell? ⟨w.heap.size + 1, 1, none⟩ = some (.int .i64 0) := xC_ B3.out 1
   have y2 : wc.frozen? ⟨w.heap.size, 0, none⟩ = false := blk_frozen B2.out 0
   have y3 : wc.frozen? ⟨w.heap.size + 1, 0, none⟩ = false := blk_frozen B3.out 0
   have y4 : wc.frozen? ⟨w.heap.size + 1, 1, none⟩ = false := blk_frozen B3.out 1
   go_wp2
   (try simp only [Exit.inBlock, Exit.then])
   refine bodyPost_ret (results_cc rfl _ _ w.heap.size 24 #[.slice A5 r0.2.length c5] (0, 0) _ (w.heap.size + 1) 48 #[.int .i64 0, .int .i64 0] (0, 0) _ rfl (blk_ne (blk_ne (blk_put B2.out 0 (.slice A5 r0.2.length c5) rfl) (by omega)) (by omega)) hu24 rfl (by kernel_rfl) rfl (blk_put (blk_put (blk_ne B3.out (by omega)) 0 (.int .i64 0) rfl) 1 (.int .i64 0) rfl) hu48 rfl (by kernel_rfl)) rfl ?_
   exact ⟨_, rfl, Kd.S_lower (Kd.S_mono (Kd.S_far (Kd.S_far (Kd.S_far HC.out.row (fun k hk => (FAR.out k hk).1) _) (fun k hk => (FAR.out k hk).2) _) (fun k hk => (FAR.out k hk).2) _) (fun _ _ => trivial)) FARW.out, ((HBC.out.setCell (by simp) _).setCell (by simp) _).setCell (by simp) _⟩
  ·
   by_cases c5 : cd = 0
   ·
    subst c5
    have c6 : ln ≠ 0 := fun e_ => c4 ⟨rfl, e_⟩
    have hE := HE.out
    rw [if_neg c4] at hE
    obtain ⟨rfl, rfl, rfl⟩ : [] = r1 ∧ 0 = r2 ∧ ln = r3 := by simpa using hE
    clear hE HE
    have p0 : (ln == 0) = false := beq_eq_false_iff_ne.mpr c6
    have p1 : (ln != 0) = true := bne_iff_ne.mpr c6
    have p2 : decide (ln = 0) = false := decide_eq_false c6
    have p3 : (ln = 0) = False := eq_false c6
    clear c4 c6
    have NG2 : Aside0 (g ≠ w.heap.size) := ⟨by have h_ := HG.out; have h2_ := blk_lt2.out; have h3_ := HGG.out; omega⟩
    have N32 : Aside0 (w.heap.size + 1 ≠ w.heap.size) := ⟨by omega⟩
    go_upto_region 8 with fail
    refine start_ (n := 7) (S := fun w' => w'.cell? ⟨g, 1, none⟩ = some (.int .i64 0) ∧ w'.cell? ⟨g, 2, none⟩ = some (.int .i64 ln)) (ds := [6]) #[false, false, false, false, false, false, false] (by kernel_rfl) rfl rfl ⟨g1, g2⟩ (fun hHeld => ?_)
    refine pure_ (i := 0) (N := some 37) (v := ?_) (a' := ?_) #[true, false, false, false, false, false, false] rfl rfl (by kernel_rfl) (fun _ _ _ h => h) (Or.inl ⟨by rfl, ?_⟩) ?_ ?_
    rotate_left
    ·
     intro w'
     go_simp
     with_reducible rfl
    rotate_left
    ·
     simp only [Act.put, sA_, sZ_, sS_, i64_w, i32_w]
     rfl
    refine pure_ (i := 1) (N := some 38) (v := ?_) (a' := ?_) #[true, true, false, false, false, false, false] rfl rfl (by kernel_rfl) (fun _ _ _ h => h) (Or.inl ⟨by rfl, ?_⟩) ?_ ?_
    rotate_left
    ·
     intro w'
     go_simp
     with_reducible rfl
    rotate_left
    ·
     simp only [Act.put, sA_, sZ_, sS_, i64_w, i32_w]
     rfl
    refine pure_ (i := 2) (N := some 39) (v := ?_) (a' := ?_) #[true, true, true, false, false, false, false] rfl rfl (by kernel_rfl) (fun _ _ _ h => h) (Or.inl ⟨by rfl, ?_⟩) ?_ ?_
    rotate_left
    ·
     intro w'
     go_simp
     with_reducible rfl
    rotate_left
    ·
     simp only [Act.put, sA_, sZ_, sS_, i64_w, i32_w]
     rfl
    refine pure_ (i := 3) (N := some 40) (v := ?_) (a' := ?_) #[true, true, true, true, false, false, false] rfl rfl (by kernel_rfl) (fun _ _ _ h => h) (Or.inl ⟨by rfl, ?_⟩) ?_ ?_
    rotate_left
    ·
     intro w'
     go_simp
     with_reducible rfl
    rotate_left
    ·
     simp only [Act.put, sA_, sZ_, sS_, i64_w, i32_w]
     rfl
    refine take_ (i := 4) (N := some 41) (v := ?_) (a' := ?_) #[true, true, true, true, true, false, false] rfl rfl (by kernel_rfl) (fun _ _ _ h => h) (Or.inl ⟨by rfl, ?_⟩) hHeld ?_ ?_
    rotate_left
    ·
     rintro w' ⟨s0, s1⟩
     go_simp
     with_reducible rfl
    rotate_left
    ·
     simp only [Act.put, sA_, sZ_, sS_, i64_w, i32_w]
     rfl
    refine one_ (i := 5) (N := none) #[true, true, true, true, true, true, false] rfl rfl (by kernel_rfl) (by decide) (fun K hK => ?_)
    have fa_ := blk_frozen B2.out 0
    have ia_ := xC_ B2.out 0
    refine skip_ (w1 := ?_) (by rfl) rfl ?_ ?_
    rotate_left
    ·
     go_simp
     rfl
    refine hK.out _ _ ⟨((Lib.cell_of_heap (blk_ne BG.out NG2.out) 1).trans rfl), ((Lib.cell_of_heap (blk_ne BG.out NG2.out) 2).trans rfl)⟩ (fun hHeld => ?_)
    clear hK K
    refine last_ (i := 6) (N := none) #[true, true, true, true, true, true, true] rfl rfl (by kernel_rfl) (by decide) (fun K hK => ?_)
    have hB3' := blk_ne (u := .slice none 0 0) (i := 0) B3.out N32.out
    have fb0_ := blk_frozen hB3' 0
    have fb1_ := blk_frozen hB3' 1
    have ib0_ := (blk_cell hB3' 0).trans rfl
    have ib1_ := (blk_cell hB3' 1).trans rfl
    refine skip_ (w1 := ?_) (by rfl) rfl ?_ ?_
    rotate_left
    ·
     go_simp
     rfl
    refine hK.out _ _ ?_
    clear hK K
    refine done_ (by kernel_rfl) ?_
    go_wp2
    (try simp only [Exit.inBlock, Exit.then])
    refine bodyPost_ret (results_cc rfl _ _ w.heap.size 24 #[.slice none 0 0] (0, 0) _ (w.heap.size + 1) 48 #[.int .i64 0, .int .i64 ln] (0, 0) _ rfl (blk_ne (blk_ne (blk_put B2.out 0 (.slice none 0 0) rfl) (by omega)) (by omega)) hu24 rfl (by kernel_rfl) rfl (blk_put (blk_put (blk_ne B3.out (by omega)) 0 (.int .i64 0) rfl) 1 (.int .i64 ln) rfl) hu48 rfl (by kernel_rfl)) rfl ?_
    exact ⟨_, rfl, Kd.S_nil _ _ _ _ _, (((below_drew HBC.out).setCell (by simp) _).setCell (by simp) _).setCell (by simp) _⟩
   ·
    have c6 : cd ≠ 0 := c5
    have hE := HE.out
    rw [if_neg c4] at hE
    obtain ⟨rfl, rfl, rfl⟩ : [] = r1 ∧ cd = r2 ∧ ln = r3 := by simpa using hE
    clear hE HE
    have p0 : (cd == 0) = false := beq_eq_false_iff_ne.mpr c6
    have p1 : (cd != 0) = true := bne_iff_ne.mpr c6
    have p2 : decide (cd = 0) = false := decide_eq_false c6
    have p3 : (cd = 0) = False := eq_false c6
    clear c4 c6
    have NG2 : Aside0 (g ≠ w.heap.size) := ⟨by have h_ := HG.out; have h2_ := blk_lt2.out; have h3_ := HGG.out; omega⟩
    have N32 : Aside0 (w.heap.size + 1 ≠ w.heap.size) := ⟨by omega⟩
    go_upto_region 8 with fail
    refine start_ (n := 7) (S := fun w' => w'.cell? ⟨g, 1, none⟩ = some (.int .i64 cd) ∧ w'.cell? ⟨g, 2, none⟩ = some (.int .i64 ln)) (ds := [6]) #[false, false, false, false, false, false, false] (by kernel_rfl) rfl rfl ⟨g1, g2⟩ (fun hHeld => ?_)
    refine pure_ (i := 0) (N := some 37) (v := ?_) (a' := ?_) #[true, false, false, false, false, false, false] rfl rfl (by kernel_rfl) (fun _ _ _ h => h) (Or.inl ⟨by rfl, ?_⟩) ?_ ?_
    rotate_left
    ·
     intro w'
     go_simp
     with_reducible rfl
    rotate_left
    ·
     simp only [Act.put, sA_, sZ_, sS_, i64_w, i32_w]
     rfl
    refine pure_ (i := 1) (N := some 38) (v := ?_) (a' := ?_) #[true, true, false, false, false, false, false] rfl rfl (by kernel_rfl) (fun _ _ _ h => h) (Or.inl ⟨by rfl, ?_⟩) ?_ ?_
    rotate_left
    ·
     intro w'
     go_simp
     with_reducible rfl
    rotate_left
    ·
     simp only [Act.put, sA_, sZ_, sS_, i64_w, i32_w]
     rfl
    refine pure_ (i := 2) (N := some 39) (v := ?_) (a' := ?_) #[true, true, true, false, false, false, false] rfl rfl (by kernel_rfl) (fun _ _ _ h => h) (Or.inl ⟨by rfl, ?_⟩) ?_ ?_
    rotate_left
    ·
     intro w'
     go_simp
     with_reducible rfl
    rotate_left
    ·
     simp only [Act.put, sA_, sZ_, sS_, i64_w, i32_w]
     rfl
    refine pure_ (i := 3) (N := some 40) (v := ?_) (a' := ?_) #[true, true, true, true, false, false, false] rfl rfl (by kernel_rfl) (fun _ _ _ h => h) (Or.inl ⟨by rfl, ?_⟩) ?_ ?_
    rotate_left
    ·
     intro w'
     go_simp
     with_reducible rfl
    rotate_left
    ·
     simp only [Act.put, sA_, sZ_, sS_, i64_w, i32_w]
     rfl
    refine take_ (i := 4) (N := some 41) (v := ?_) (a' := ?_) #[true, true, true, true, true, false, false] rfl rfl (by kernel_rfl) (fun _ _ _ h => h) (Or.inl ⟨by rfl, ?_⟩) hHeld ?_ ?_
    rotate_left
    ·
     rintro w' ⟨s0, s1⟩
     go_simp
     with_reducible rfl
    rotate_left
    ·
     simp only [Act.put, sA_, sZ_, sS_, i64_w, i32_w]
     rfl
    refine one_ (i := 5) (N := none) #[true, true, true, true, true, true, false] rfl rfl (by kernel_rfl) (by decide) (fun K hK => ?_)
    have fa_ := blk_frozen B2.out 0
    have ia_ := xC_ B2.out 0
    refine skip_ (w1 := ?_) (by rfl) rfl ?_ ?_
    rotate_left
    ·
     go_simp
     rfl
    refine hK.out _ _ ⟨((Lib.cell_of_heap (blk_ne BG.out NG2.out) 1).trans rfl), ((Lib.cell_of_heap (blk_ne BG.out NG2.out) 2).trans rfl)⟩ (fun hHeld => ?_)
    clear hK K
    refine last_ (i := 6) (N := none) #[true, true, true, true, true, true, true] rfl rfl (by kernel_rfl) (by decide) (fun K hK => ?_)
    have hB3' := blk_ne (u := .slice none 0 0) (i := 0) B3.out N32.out
    have fb0_ := blk_frozen hB3' 0
    have fb1_ := blk_frozen hB3' 1
    have ib0_ := (blk_cell hB3' 0).trans rfl
    have ib1_ := (blk_cell hB3' 1).trans rfl
    refine skip_ (w1 := ?_) (by rfl) rfl ?_ ?_
    rotate_left
    ·
     go_simp
     rfl
    refine hK.out _ _ ?_
    clear hK K
    refine done_ (by kernel_rfl) ?_
    go_wp2
    (try simp only [Exit.inBlock, Exit.then])
    refine bodyPost_ret (results_cc rfl _ _ w.heap.size 24 #[.slice none 0 0] (0, 0) _ (w.heap.size + 1) 48 #[.int .i64 cd, .int .i64 ln] (0, 0) _ rfl (blk_ne (blk_ne (blk_put B2.out 0 (.slice none 0 0) rfl) (by omega)) (by omega)) hu24 rfl (by kernel_rfl) rfl (blk_put (blk_put (blk_ne B3.out (by omega)) 0 (.int .i64 cd) rfl) 1 (.int .i64 ln) rfl) hu48 rfl (by kernel_rfl)) rfl ?_
    exact ⟨_, rfl, Kd.S_nil _ _ _ _ _, (((below_drew HBC.out).setCell (by simp) _).setCell (by simp) _).setCell (by simp) _⟩

/-! ### pantrylaw09_anchor: function 8 -/
def pantrylaw09_anchor.f (k : Nat)  : Option (Bool) := (conf_Read.f k (⟨#[115, 105, 116, 101, 32, 97, 46, 98, 32, 123, 32, 116, 116, 108, 32, 53, 32, 54, 48, 59, 32, 107, 101, 121, 32, 112, 97, 116, 104, 32, 104, 101, 97, 100, 101, 114, 32, 97, 99, 99, 101, 112, 116, 59, 32, 125]⟩ : ByteArray)).bind fun bt142 => ((conf_Read.f k (⟨#[115, 105, 116, 101, 32, 97, 32, 123, 10, 32, 111, 114, 105, 103, 105, 110, 32, 48, 59, 32, 125]⟩ : ByteArray)).bind fun bt149 => (if (bt142.2.1 == 0 && (bt142.2.2 == 0)) = true then (if (bt142.1.length : Int) = 1 then (if 0 < (bt142.1.length : Int) then (if ((rd_T29 bt142.1 0).f1) = 1 then (if ((rd_T29 bt142.1 0).f2) = 5 then (if ((rd_T29 bt142.1 0).f3) = 60 then (if ((rd_T29 bt142.1 0).f4 = true) then (none) else (if (rd_T29 bt142.1 0).f5 = true then (some (bt149.2.1 == 11 && (bt149.2.2 == 2))) else (none))) else (none)) else (none)) else (none)) else (none)) else (none)) else (none)))
theorem pantrylaw09_anchor.mono : ∀ k, LeO (pantrylaw09_anchor.f k ) (pantrylaw09_anchor.f (k + 1) ) := by
 intro  k
 unfold pantrylaw09_anchor.f
 repeat' (with_reducible first | exact conf_Read.mono _ _ | exact lR_ | refine LeO.ite ?_ ?_ | refine LeO.bind ?_ (fun _ => ?_))
set_option maxHeartbeats 8000000 in
set_option maxRecDepth 100000 in
theorem pantrylaw09_anchor.calls (k : Nat)  (r : Bool) (w : World) (hrW : WF w) (h : pantrylaw09_anchor.f k  = some r) :
  Calls Tryd.prog 8 #[] w fun e w' => e = .returned (.bool r) ∧ Below w.heap.size w w' := by
 have hu24 := Tryd.underlying24
 have hu48 := Tryd.underlying48
 have HRW := Aside0.mk hrW
 clear hrW
 have HB := Aside0.mk (Below.refl w.heap.size w)
 have H : ((conf_Read.f k (⟨#[115, 105, 116, 101, 32, 97, 46, 98, 32, 123, 32, 116, 116, 108, 32, 53, 32, 54, 48, 59, 32, 107, 101, 121, 32, 112, 97, 116, 104, 32, 104, 101, 97, 100, 101, 114, 32, 97, 99, 99, 101, 112, 116, 59, 32, 125]⟩ : ByteArray)).bind fun bt142 => ((conf_Read.f k (⟨#[115, 105, 116, 101, 32, 97, 32, 123, 10, 32, 111, 114, 105, 103, 105, 110, 32, 48, 59, 32, 125]⟩ : ByteArray)).bind fun bt149 => (if (bt142.2.1 == 0 && (bt142.2.2 == 0)) = true then (if (bt142.1.length : Int) = 1 then (if 0 < (bt142.1.length : Int) then (if ((rd_T29 bt142.1 0).f1) = 1 then (if ((rd_T29 bt142.1 0).f2) = 5 then (if ((rd_T29 bt142.1 0).f3) = 60 then (if ((rd_T29 bt142.1 0).f4 = true) then (none) else (if (rd_T29 bt142.1 0).f5 = true then (some (bt149.2.1 == 11 && (bt149.2.2 == 2))) else (none))) else (none)) else (none)) else (none)) else (none)) else (none)) else (none)))) = some r := h
 clear h
 obtain ⟨⟨t142, t145, t146⟩, A1, H⟩ := bS_ H
 try dsimp only at H
 obtain ⟨⟨t149, t152, t153⟩, A2, H⟩ := bS_ H
 try dsimp only at H
 by_cases c3 : (t145 == 0 && (t146 == 0)) = true
 ·
  rw [if_pos c3] at H
  have c3b0 : (t145 == 0 && (t146 == 0)) = true := c3
  (try (have c3b1 : decide (t145 = 0 && (t146 == 0)) = true := by simpa using c3))
  (try (have c3b2 : (t145 == 0 && (t146 == 0)) = true := by simpa using c3))
  clear c3
  by_cases c4 : (t142.length : Int) = 1
  ·
   rw [if_pos c4] at H
   have c4b0 : ((t142.length : Int) == 1) = true := beq_iff_eq.mpr c4
   have c4b1 : ((t142.length : Int) != 1) = false := bne_eq_false_iff_eq.mpr c4
   clear c4
   by_cases c5 : 0 < (t142.length : Int)
   ·
    rw [if_pos c5] at H
    have c5b0 : decide (0 < (t142.length : Int)) = true := decide_eq_true c5
    have c5b1 : decide (0 < t142.length) = true := decide_eq_true (by omega)
    clear c5
    by_cases c6 : ((rd_T29 t142 0).f1) = 1
    ·
     rw [if_pos c6] at H
     have c6b0 : (((rd_T29 t142 0).f1) == 1) = true := beq_iff_eq.mpr c6
     have c6b1 : (((rd_T29 t142 0).f1) != 1) = false := bne_eq_false_iff_eq.mpr c6
     clear c6
     by_cases c7 : ((rd_T29 t142 0).f2) = 5
     ·
      rw [if_pos c7] at H
      have c7b0 : (((rd_T29 t142 0).f2) == 5) = true := beq_iff_eq.mpr c7
      have c7b1 : (((rd_T29 t142 0).f2) != 5) = false := bne_eq_false_iff_eq.mpr c7
      clear c7
      by_cases c8 : ((rd_T29 t142 0).f3) = 60
      ·
       rw [if_pos c8] at H
       have c8b0 : (((rd_T29 t142 0).f3) == 60) = true := beq_iff_eq.mpr c8
       have c8b1 : (((rd_T29 t142 0).f3) != 60) = false := bne_eq_false_iff_eq.mpr c8
       clear c8
       obtain ⟨bq9, hbq9⟩ : ∃ b_ : Bool, b_ = ((rd_T29 t142 0).f4) := ⟨_, rfl⟩
       replace H : (if (bq9 = true) then (none) else (if (rd_T29 t142 0).f5 = true then (some (t152 == 11 && (t153 == 2))) else (none))) = some r := by rw [← hbq9] at H; exact H
       have Nbq9 := Aside0.mk hbq9
       clear hbq9
       by_cases c10 : (bq9 = true)
       ·
        subst c10
        rw [if_pos rfl] at H
        exact absurd H (by simp)
       ·
        replace c10 := Bool.eq_false_iff.mpr c10
        subst c10
        rw [if_neg (show ¬ (false = true) by decide)] at H
        obtain ⟨bq11, hbq11⟩ : ∃ b_ : Bool, b_ = ((rd_T29 t142 0).f5) := ⟨_, rfl⟩
        replace H : (if bq11 = true then (some (t152 == 11 && (t153 == 2))) else (none)) = some r := by rw [← hbq11] at H; exact H
        have Nbq11 := Aside0.mk hbq11
        clear hbq11
        by_cases c12 : bq11 = true
        ·
         subst c12
         rw [if_pos rfl] at H
         obtain rfl := Option.some.inj H
         go_enter Tryd.func8, Tryd.ntmps8
         go_wp2_with (first | ((with_reducible refine gate_callee (f := 16) rfl ?_); refine goesL_ (some 6) rfl rfl Tryd.func16 (by kernel_rfl) rfl #[.string (⟨#[115, 105, 116, 101, 32, 97, 46, 98, 32, 123, 32, 116, 116, 108, 32, 53, 32, 54, 48, 59, 32, 107, 101, 121, 32, 112, 97, 116, 104, 32, 104, 101, 97, 100, 101, 114, 32, 97, 99, 99, 101, 112, 116, 59, 32, 125]⟩ : ByteArray)] rfl T1_ ?_; (with_reducible refine (conf_Read.calls k (⟨#[115, 105, 116, 101, 32, 97, 46, 98, 32, 123, 32, 116, 116, 108, 32, 53, 32, 54, 48, 59, 32, 107, 101, 121, 32, 112, 97, 116, 104, 32, 104, 101, 97, 100, 101, 114, 32, 97, 99, 99, 101, 112, 116, 59, 32, 125]⟩ : ByteArray) t142 t145 t146 _ ?side1 A1.out).mono ?_); (case side1 => exact C1_ (HRW.out)); rintro e w13 ⟨v143, rfl, ho0, hb⟩; refine ⟨_, rfl, ?_⟩; have HO144 := Aside0.mk (Kd.S_lower ho0 (below_size W1_)); replace HB := y1_ hb; (try clear hb); (try clear ho0)) | ((with_reducible refine gate_dst (N := 1) rfl ?_); (try (refine gate_guard (by rfl) ?_; dsimp only)); refine box_event ?hg (N := 1) ?hd (cs := #[.slice none 0 0]) (t := 24) ?hr ?_; (case hd | hg => rfl); (case hr => exact S1_); intro gb147 hg w14 hbox hb; have BK147 := Aside0.mk (hbox); have GW147 := Aside0.mk ((Z1_ : w.heap.size ≤ gb147)); have GE147 := Aside0.mk ((Z1_ : w.heap.size ≤ gb147)); replace HO144 := Aside0.mk (Kd.S_below (by (with_reducible repeat (first | apply Kd.S_alloc | apply Kd.S_drewN | apply Kd.S_drew)); exact HO144.out) hb); replace HB := y1_ hb; clear hb hbox hg) | ((with_reducible refine gate_dst (N := 2) rfl ?_); (try (refine gate_guard (by rfl) ?_; dsimp only)); refine box_event ?hg (N := 2) ?hd (cs := #[.int .i64 0, .int .i64 0]) (t := 48) ?hr ?_; (case hd | hg => rfl); (case hr => exact S1_); intro gb148 hg w15 hbox hb; have BK148 := Aside0.mk (hbox); have GW148 := Aside0.mk ((Z2_ : w.heap.size ≤ gb148)); have GE148 := Aside0.mk ((Z2_ : w.heap.size ≤ gb148)); have NB147_148 := Aside0.mk ((by rw [hg]; exact Nat.ne_of_lt (blk_lt (B1_ BK147.out)) : gb147 ≠ gb148)); have NB148_147 := Aside0.mk ((by rw [hg]; exact Nat.ne_of_gt (blk_lt (B1_ BK147.out)) : gb148 ≠ gb147)); replace HO144 := Aside0.mk (Kd.S_below (by (with_reducible repeat (first | apply Kd.S_alloc | apply Kd.S_drewN | apply Kd.S_drew)); exact HO144.out) hb); replace BK147 := yB_ BK147 hb; replace HB := y2_ hb; clear hb hbox hg; obtain ⟨Ao16, co16, eo16⟩ := Kd.S_slice HO144.out; subst eo16; have hnb17 := NB147_148.out; have hnc17 := NB148_147.out; obtain ⟨z18_0, y18_0⟩ := cz1_ BK147.out; obtain ⟨z19_0, z19_1, y19_0, y19_1⟩ := cz2_ BK148.out) | ((with_reducible refine gate_callee (f := 16) rfl ?_); refine goesL_ (some 10) rfl rfl Tryd.func16 (by kernel_rfl) rfl #[.string (⟨#[115, 105, 116, 101, 32, 97, 32, 123, 10, 32, 111, 114, 105, 103, 105, 110, 32, 48, 59, 32, 125]⟩ : ByteArray)] rfl T1_ ?_; (with_reducible refine (conf_Read.calls k (⟨#[115, 105, 116, 101, 32, 97, 32, 123, 10, 32, 111, 114, 105, 103, 105, 110, 32, 48, 59, 32, 125]⟩ : ByteArray) t149 t152 t153 _ ?side1 A2.out).mono ?_); (case side1 => exact WF.below HRW.out W2_); rintro e w20 ⟨v150, rfl, ho0, hb⟩; refine ⟨_, rfl, ?_⟩; have HO151 := Aside0.mk (Kd.S_lower (Kd.S_new' ho0 (Kd.S_lt (by (with_reducible repeat (first | apply Kd.S_alloc | apply Kd.S_drewN | apply Kd.S_drew)); exact (Kd.S_mono (Kd.S_mono (Kd.S_far (p := ⟨gb148, 1, none⟩) (Kd.S_far (p := ⟨gb148, 0, none⟩) (Kd.S_far (p := ⟨gb147, 0, none⟩) (Kd.S_types (Kd.S_types HO144.out BK147.out (by decide)) BK148.out (by decide)) (fun _ hk => hk.1.2) (.slice Ao16 t142.length co16)) (fun _ hk => hk.2) (.int .i64 t145)) (fun _ hk => hk.2) (.int .i64 t146)) (fun _ h_ => h_.1)) (fun _ h_ => h_.1))))) (below_size W2_)); replace HO144 := Aside0.mk (Kd.S_elder' (by (with_reducible repeat (first | apply Kd.S_alloc | apply Kd.S_drewN | apply Kd.S_drew)); exact (Kd.S_mono (Kd.S_mono (Kd.S_far (p := ⟨gb148, 1, none⟩) (Kd.S_far (p := ⟨gb148, 0, none⟩) (Kd.S_far (p := ⟨gb147, 0, none⟩) (Kd.S_types (Kd.S_types HO144.out BK147.out (by decide)) BK148.out (by decide)) (fun _ hk => hk.1.2) (.slice Ao16 t142.length co16)) (fun _ hk => hk.2) (.int .i64 t145)) (fun _ hk => hk.2) (.int .i64 t146)) (fun _ h_ => h_.1)) (fun _ h_ => h_.1))) (Kd.S_base ho0) hb); replace BK147 := Aside0.mk (blk_below (g := gb147) (o := .cells #[.slice Ao16 t142.length co16] 24 (0, 0)) (G1_ BK147.out) hb); replace BK148 := Aside0.mk (blk_below (g := gb148) (o := .cells #[.int .i64 t145, .int .i64 t146] 48 (0, 0)) (G1_ BK148.out) hb); replace HB := y2_ hb; (try clear hb); (try clear hk); (try clear ho0)) | ((with_reducible refine gate_dst (N := 3) rfl ?_); (try (refine gate_guard (by rfl) ?_; dsimp only)); refine box_event ?hg (N := 3) ?hd (cs := #[.slice none 0 0]) (t := 24) ?hr ?_; (case hd | hg => rfl); (case hr => exact S1_); intro gb154 hg w21 hbox hb; have BK154 := Aside0.mk (hbox); have GW154 := Aside0.mk ((Z2_ : w.heap.size ≤ gb154)); have GE154 := Aside0.mk ((Z2_ : w.heap.size ≤ gb154)); have NB147_154 := Aside0.mk ((by rw [hg]; exact Nat.ne_of_lt (blk_lt (B1_ BK147.out)) : gb147 ≠ gb154)); have NB154_147 := Aside0.mk ((by rw [hg]; exact Nat.ne_of_gt (blk_lt (B1_ BK147.out)) : gb154 ≠ gb147)); have NB148_154 := Aside0.mk ((by rw [hg]; exact Nat.ne_of_lt (blk_lt (B1_ BK148.out)) : gb148 ≠ gb154)); have NB154_148 := Aside0.mk ((by rw [hg]; exact Nat.ne_of_gt (blk_lt (B1_ BK148.out)) : gb154 ≠ gb148)); replace HO144 := Aside0.mk (Kd.S_below (by (with_reducible repeat (first | apply Kd.S_alloc | apply Kd.S_drewN | apply Kd.S_drew)); exact HO144.out) hb); replace HO151 := Aside0.mk (Kd.S_below (by (with_reducible repeat (first | apply Kd.S_alloc | apply Kd.S_drewN | apply Kd.S_drew)); exact HO151.out) hb); replace BK147 := yB_ BK147 hb; replace BK148 := yB_ BK148 hb; replace HB := y2_ hb; clear hb hbox hg) | ((with_reducible refine gate_dst (N := 4) rfl ?_); (try (refine gate_guard (by rfl) ?_; dsimp only)); refine box_event ?hg (N := 4) ?hd (cs := #[.int .i64 0, .int .i64 0]) (t := 48) ?hr ?_; (case hd | hg => rfl); (case hr => exact S1_); intro gb155 hg w22 hbox hb; have BK155 := Aside0.mk (hbox); have GW155 := Aside0.mk ((Z2_ : w.heap.size ≤ gb155)); have GE155 := Aside0.mk ((Z2_ : w.heap.size ≤ gb155)); have NB147_155 := Aside0.mk ((by rw [hg]; exact Nat.ne_of_lt (blk_lt (B1_ BK147.out)) : gb147 ≠ gb155)); have NB155_147 := Aside0.mk ((by rw [hg]; exact Nat.ne_of_gt (blk_lt (B1_ BK147.out)) : gb155 ≠ gb147)); have NB148_155 := Aside0.mk ((by rw [hg]; exact Nat.ne_of_lt (blk_lt (B1_ BK148.out)) : gb148 ≠ gb155)); have NB155_148 := Aside0.mk ((by rw [hg]; exact Nat.ne_of_gt (blk_lt (B1_ BK148.out)) : gb155 ≠ gb148)); have NB154_155 := Aside0.mk ((by rw [hg]; exact Nat.ne_of_lt (blk_lt (B1_ BK154.out)) : gb154 ≠ gb155)); have NB155_154 := Aside0.mk ((by rw [hg]; exact Nat.ne_of_gt (blk_lt (B1_ BK154.out)) : gb155 ≠ gb154)); replace HO144 := Aside0.mk (Kd.S_below (by (with_reducible repeat (first | apply Kd.S_alloc | apply Kd.S_drewN | apply Kd.S_drew)); exact HO144.out) hb); replace HO151 := Aside0.mk (Kd.S_below (by (with_reducible repeat (first | apply Kd.S_alloc | apply Kd.S_drewN | apply Kd.S_drew)); exact HO151.out) hb); replace BK147 := yB_ BK147 hb; replace BK148 := yB_ BK148 hb; replace BK154 := yB_ BK154 hb; replace HB := y2_ hb; clear hb hbox hg; obtain ⟨Ao23, co23, eo23⟩ := Kd.S_slice HO151.out; subst eo23; have hnb24 := NB154_147.out; have hnc24 := NB147_154.out; have hnb25 := NB154_148.out; have hnc25 := NB148_154.out; have hnb26 := NB154_155.out; have hnc26 := NB155_154.out; obtain ⟨z27_0, y27_0⟩ := cz1_ BK154.out) | ((with_reducible refine gate_store (t := 24) (p := 3) rfl ?_); refine store_event (t := 24) (p := 3) (v := ?vo_w28) (w1 := (w22.setCell ⟨gb154, 0, none⟩ (.slice Ao23 t149.length co23))) ?hg ?ho ?hn ?hr ?_; (case ho => rfl); (case hg => rfl); (case hn => rfl); (case hr => first | (go_simp; done) | (go_simp; rfl)); intro w28 hw; have n0_ : Aside0 (Kd.S k29 29 w28 w.heap.size (fun k_ => some k_ ≠ (.slice Ao23 t149.length co23 : Value).ownBlock) (.slice Ao16 t142.length co16) t142) := ⟨(by rw [hw]; exact (by (with_reducible repeat (first | apply Kd.S_alloc | apply Kd.S_drewN | apply Kd.S_drew)); exact Kd.S_mono (Kd.S_far (p := ⟨gb154, 0, none⟩) (Kd.S_types HO144.out BK154.out (by decide)) (fun _ hk => hk.2) (.slice Ao23 t149.length co23)) (fun _ hk => hk.1.2)))⟩; have n1_ : Aside0 (Kd.S k29 29 w28 w.heap.size (fun k_ => some k_ ≠ (.slice Ao16 t142.length co16 : Value).ownBlock) (.slice Ao23 t149.length co23) t149) := ⟨(by rw [hw]; exact (by (with_reducible repeat (first | apply Kd.S_alloc | apply Kd.S_drewN | apply Kd.S_drew)); exact Kd.S_mono (Kd.S_far (p := ⟨gb154, 0, none⟩) (Kd.S_types HO151.out BK154.out (by decide)) (fun _ hk => hk.2) (.slice Ao23 t149.length co23)) (fun _ hk => hk.1.2)))⟩; have n2_ : Aside0 (w28.heap[gb147]? = some (.cells #[.slice Ao16 t142.length co16] 24 (0, 0))) := ⟨(by rw [hw]; exact (G1_ BK147.out))⟩; have n3_ : Aside0 (w28.heap[gb148]? = some (.cells #[.int .i64 t145, .int .i64 t146] 48 (0, 0))) := ⟨(by rw [hw]; exact (G1_ BK148.out))⟩; have n4_ : Aside0 (w28.heap[gb154]? = some (.cells #[.slice Ao23 t149.length co23] 24 (0, 0))) := ⟨(by rw [hw]; exact (G1_ BK154.out))⟩; have n5_ : Aside0 (w28.heap[gb155]? = some (.cells #[.int .i64 0, .int .i64 0] 48 (0, 0))) := ⟨(by rw [hw]; exact (G1_ BK155.out))⟩; have n6_ : Aside0 (Below w.heap.size w w28) := ⟨(by rw [hw]; exact W2_)⟩; clear hw; clear HO144; clear HO151; clear BK147; clear BK148; clear BK154; clear BK155; clear HB; have HO144 := n0_; have HO151 := n1_; have BK147 := n2_; have BK148 := n3_; have BK154 := n4_; have BK155 := n5_; have HB := n6_; clear n0_ n1_ n2_ n3_ n4_ n5_ n6_; have hnb29 := NB155_147.out; have hnc29 := NB147_155.out; have hnb30 := NB155_148.out; have hnc30 := NB148_155.out; obtain ⟨z31_0, z31_1, y31_0, y31_1⟩ := cz2_ BK155.out) | ((with_reducible refine gate_store (t := 48) (p := 4) rfl ?_); refine store_event (t := 48) (p := 4) (v := ?vo_w32) (w1 := ((w28.setCell ⟨gb155, 0, none⟩ (.int .i64 t152)).setCell ⟨gb155, 1, none⟩ (.int .i64 t153))) ?hg ?ho ?hn ?hr ?_; (case ho => rfl); (case hg => rfl); (case hn => rfl); (case hr => first | (go_simp; done) | (go_simp; rfl)); intro w32 hw; have n0_ : Aside0 (Kd.S k29 29 w32 w.heap.size (fun k_ => some k_ ≠ (.slice Ao23 t149.length co23 : Value).ownBlock) (.slice Ao16 t142.length co16) t142) := ⟨(by rw [hw]; exact (by (with_reducible repeat (first | apply Kd.S_alloc | apply Kd.S_drewN | apply Kd.S_drew)); exact Kd.S_mono (Kd.S_far (p := ⟨gb155, 1, none⟩) (Kd.S_far (p := ⟨gb155, 0, none⟩) (Kd.S_types HO144.out BK155.out (by decide)) (fun _ hk => hk.2) (.int .i64 t152)) (fun _ hk => hk.2) (.int .i64 t153)) (fun _ hk => hk.1)))⟩; have n1_ : Aside0 (Kd.S k29 29 w32 w.heap.size (fun k_ => some k_ ≠ (.slice Ao16 t142.length co16 : Value).ownBlock) (.slice Ao23 t149.length co23) t149) := ⟨(by rw [hw]; exact (by (with_reducible repeat (first | apply Kd.S_alloc | apply Kd.S_drewN | apply Kd.S_drew)); exact Kd.S_mono (Kd.S_far (p := ⟨gb155, 1, none⟩) (Kd.S_far (p := ⟨gb155, 0, none⟩) (Kd.S_types HO151.out BK155.out (by decide)) (fun _ hk => hk.2) (.int .i64 t152)) (fun _ hk => hk.2) (.int .i64 t153)) (fun _ hk => hk.1)))⟩; have n2_ : Aside0 (w32.heap[gb147]? = some (.cells #[.slice Ao16 t142.length co16] 24 (0, 0))) := ⟨(by rw [hw]; exact (G1_ BK147.out))⟩; have n3_ : Aside0 (w32.heap[gb148]? = some (.cells #[.int .i64 t145, .int .i64 t146] 48 (0, 0))) := ⟨(by rw [hw]; exact (G1_ BK148.out))⟩; have n4_ : Aside0 (w32.heap[gb154]? = some (.cells #[.slice Ao23 t149.length co23] 24 (0, 0))) := ⟨(by rw [hw]; exact (G1_ BK154.out))⟩; have n5_ : Aside0 (w32.heap[gb155]? = some (.cells #[.int .i64 t152, .int .i64 t153] 48 (0, 0))) := ⟨(by rw [hw]; exact (G1_ BK155.out))⟩; have n6_ : Aside0 (Below w.heap.size w w32) := ⟨(by rw [hw]; exact W2_)⟩; clear hw; clear HO144; clear HO151; clear BK147; clear BK148; clear BK154; clear BK155; clear HB; have HO144 := n0_; have HO151 := n1_; have BK147 := n2_; have BK148 := n3_; have BK154 := n4_; have BK155 := n5_; have HB := n6_; clear n0_ n1_ n2_ n3_ n4_ n5_ n6_; obtain ⟨z33_0, z33_1, y33_0, y33_1⟩ := cz2_ BK148.out; obtain ⟨z34_0, y34_0⟩ := cz1_ BK147.out; have p156 : 0 ≤ (0 : Int) := (by omega); have q156 : 0 < (t142.length : Int) := oA_; obtain ⟨ad156, A156_6, c156_6, e156, hx156_0, hx156_1, hx156_2, hx156_3, hx156_4, hx156_5, hx156_6, hl156_6, hi156_6⟩ := at_T29 (Kd.S_reads' HO144.out).2.2 0 p156 q156; (try rw [← Nbq9.out] at hx156_4); (try rw [← Nbq11.out] at hx156_4); (try rw [← Nbq9.out] at hx156_5); (try rw [← Nbq11.out] at hx156_5); cases e156; obtain ⟨ce156, hce156, hMe156, hcc156⟩ := Kd.S_get HO144.out z29 0 p156 (by first | exact q156 | exact oA_ | (have e_ := (Kd.S_reads' HO144.out).1; omega)); obtain ⟨ve156_6, rfl, ge156_6⟩ := k29_openM hMe156; have hv156_6 := hcc156 6 _ rfl; rw [add_field _ _ 6 (by omega)] at hv156_6; replace hv156_6 := Option.some.inj (hv156_6.symm.trans hx156_6); rw [hv156_6] at ge156_6; have HL156_6 := Aside0.mk (show Kd.R Kd.string 9 _ _ _ _ ((rd_T29 t142 0).f6) from ge156_6); clear hv156_6 ge156_6; clear hcc156 hce156; have qi156 : (0 < t142.length) = True := eq_true (by omega); (try rw [show ((0 : Int)).toNat = 0 from rfl] at hx156_0); (try rw [show 0 * 7 = 0 from rfl] at hx156_0); (try rw [Addr.add_zero'] at hx156_0); (try rw [show ((0 : Int)).toNat = 0 from rfl] at hx156_1); (try rw [show 0 * 7 = 0 from rfl] at hx156_1); (try rw [Addr.add_zero'] at hx156_1); (try rw [show ((0 : Int)).toNat = 0 from rfl] at hx156_2); (try rw [show 0 * 7 = 0 from rfl] at hx156_2); (try rw [Addr.add_zero'] at hx156_2); (try rw [show ((0 : Int)).toNat = 0 from rfl] at hx156_3); (try rw [show 0 * 7 = 0 from rfl] at hx156_3); (try rw [Addr.add_zero'] at hx156_3); (try rw [show ((0 : Int)).toNat = 0 from rfl] at hx156_4); (try rw [show 0 * 7 = 0 from rfl] at hx156_4); (try rw [Addr.add_zero'] at hx156_4); (try rw [show ((0 : Int)).toNat = 0 from rfl] at hx156_5); (try rw [show 0 * 7 = 0 from rfl] at hx156_5); (try rw [Addr.add_zero'] at hx156_5); (try rw [show ((0 : Int)).toNat = 0 from rfl] at hx156_6); (try rw [show 0 * 7 = 0 from rfl] at hx156_6); (try rw [Addr.add_zero'] at hx156_6); have HR156_6 := Aside0.mk hi156_6; have HC156_6 := Aside0.mk hl156_6; clear hi156_6 hl156_6; replace p156 := eq_true p156; replace q156 := eq_true q156; have p157 : 0 ≤ (0 : Int) := (by omega); have q157 : 0 < (t142.length : Int) := oA_; obtain ⟨ad157, A157_6, c157_6, e157, hx157_0, hx157_1, hx157_2, hx157_3, hx157_4, hx157_5, hx157_6, hl157_6, hi157_6⟩ := at_T29 (Kd.S_reads' HO144.out).2.2 0 p157 q157; (try rw [← Nbq9.out] at hx157_4); (try rw [← Nbq11.out] at hx157_4); (try rw [← Nbq9.out] at hx157_5); (try rw [← Nbq11.out] at hx157_5); obtain rfl : ad156 = ad157 := (by injection e157); obtain ⟨ce157, hce157, hMe157, hcc157⟩ := Kd.S_get HO144.out z29 0 p157 (by first | exact q157 | exact oA_ | (have e_ := (Kd.S_reads' HO144.out).1; omega)); obtain ⟨ve157_6, rfl, ge157_6⟩ := k29_openM hMe157; have hv157_6 := hcc157 6 _ rfl; rw [add_field _ _ 6 (by omega)] at hv157_6; replace hv157_6 := Option.some.inj (hv157_6.symm.trans hx157_6); rw [hv157_6] at ge157_6; have HL157_6 := Aside0.mk (show Kd.R Kd.string 9 _ _ _ _ ((rd_T29 t142 0).f6) from ge157_6); clear hv157_6 ge157_6; clear hcc157 hce157; have qi157 : (0 < t142.length) = True := eq_true (by omega); (try rw [show ((0 : Int)).toNat = 0 from rfl] at hx157_0); (try rw [show 0 * 7 = 0 from rfl] at hx157_0); (try rw [Addr.add_zero'] at hx157_0); (try rw [show ((0 : Int)).toNat = 0 from rfl] at hx157_1); (try rw [show 0 * 7 = 0 from rfl] at hx157_1); (try rw [Addr.add_zero'] at hx157_1); (try rw [show ((0 : Int)).toNat = 0 from rfl] at hx157_2); (try rw [show 0 * 7 = 0 from rfl] at hx157_2); (try rw [Addr.add_zero'] at hx157_2); (try rw [show ((0 : Int)).toNat = 0 from rfl] at hx157_3); (try rw [show 0 * 7 = 0 from rfl] at hx157_3); (try rw [Addr.add_zero'] at hx157_3); (try rw [show ((0 : Int)).toNat = 0 from rfl] at hx157_4); (try rw [show 0 * 7 = 0 from rfl] at hx157_4); (try rw [Addr.add_zero'] at hx157_4); (try rw [show ((0 : Int)).toNat = 0 from rfl] at hx157_5); (try rw [show 0 * 7 = 0 from rfl] at hx157_5); (try rw [Addr.add_zero'] at hx157_5); (try rw [show ((0 : Int)).toNat = 0 from rfl] at hx157_6); (try rw [show 0 * 7 = 0 from rfl] at hx157_6); (try rw [Addr.add_zero'] at hx157_6); have HR157_6 := Aside0.mk hi157_6; have HC157_6 := Aside0.mk hl157_6; clear hi157_6 hl157_6; replace p157 := eq_true p157; replace q157 := eq_true q157; have ea_ := Option.some.inj (hx156_6.symm.trans hx157_6); injection ea_ with ea_ en_ ec_; subst ea_; subst ec_; clear en_; have p158 : 0 ≤ (0 : Int) := (by omega); have q158 : 0 < (t142.length : Int) := oA_; obtain ⟨ad158, A158_6, c158_6, e158, hx158_0, hx158_1, hx158_2, hx158_3, hx158_4, hx158_5, hx158_6, hl158_6, hi158_6⟩ := at_T29 (Kd.S_reads' HO144.out).2.2 0 p158 q158; (try rw [← Nbq9.out] at hx158_4); (try rw [← Nbq11.out] at hx158_4); (try rw [← Nbq9.out] at hx158_5); (try rw [← Nbq11.out] at hx158_5); obtain rfl : ad156 = ad158 := (by injection e158); obtain ⟨ce158, hce158, hMe158, hcc158⟩ := Kd.S_get HO144.out z29 0 p158 (by first | exact q158 | exact oA_ | (have e_ := (Kd.S_reads' HO144.out).1; omega)); obtain ⟨ve158_6, rfl, ge158_6⟩ := k29_openM hMe158; have hv158_6 := hcc158 6 _ rfl; rw [add_field _ _ 6 (by omega)] at hv158_6; replace hv158_6 := Option.some.inj (hv158_6.symm.trans hx158_6); rw [hv158_6] at ge158_6; have HL158_6 := Aside0.mk (show Kd.R Kd.string 9 _ _ _ _ ((rd_T29 t142 0).f6) from ge158_6); clear hv158_6 ge158_6; clear hcc158 hce158; have qi158 : (0 < t142.length) = True := eq_true (by omega); (try rw [show ((0 : Int)).toNat = 0 from rfl] at hx158_0); (try rw [show 0 * 7 = 0 from rfl] at hx158_0); (try rw [Addr.add_zero'] at hx158_0); (try rw [show ((0 : Int)).toNat = 0 from rfl] at hx158_1); (try rw [show 0 * 7 = 0 from rfl] at hx158_1); (try rw [Addr.add_zero'] at hx158_1); (try rw [show ((0 : Int)).toNat = 0 from rfl] at hx158_2); (try rw [show 0 * 7 = 0 from rfl] at hx158_2); (try rw [Addr.add_zero'] at hx158_2); (try rw [show ((0 : Int)).toNat = 0 from rfl] at hx158_3); (try rw [show 0 * 7 = 0 from rfl] at hx158_3); (try rw [Addr.add_zero'] at hx158_3); (try rw [show ((0 : Int)).toNat = 0 from rfl] at hx158_4); (try rw [show 0 * 7 = 0 from rfl] at hx158_4); (try rw [Addr.add_zero'] at hx158_4); (try rw [show ((0 : Int)).toNat = 0 from rfl] at hx158_5); (try rw [show 0 * 7 = 0 from rfl] at hx158_5); (try rw [Addr.add_zero'] at hx158_5); (try rw [show ((0 : Int)).toNat = 0 from rfl] at hx158_6); (try rw [show 0 * 7 = 0 from rfl] at hx158_6); (try rw [Addr.add_zero'] at hx158_6); have HR158_6 := Aside0.mk hi158_6; have HC158_6 := Aside0.mk hl158_6; clear hi158_6 hl158_6; replace p158 := eq_true p158; replace q158 := eq_true q158; have ea_ := Option.some.inj (hx156_6.symm.trans hx158_6); injection ea_ with ea_ en_ ec_; subst ea_; subst ec_; clear en_; have p159 : 0 ≤ (0 : Int) := (by omega); have q159 : 0 < (t142.length : Int) := oA_; obtain ⟨ad159, A159_6, c159_6, e159, hx159_0, hx159_1, hx159_2, hx159_3, hx159_4, hx159_5, hx159_6, hl159_6, hi159_6⟩ := at_T29 (Kd.S_reads' HO144.out).2.2 0 p159 q159; (try rw [← Nbq9.out] at hx159_4); (try rw [← Nbq11.out] at hx159_4); (try rw [← Nbq9.out] at hx159_5); (try rw [← Nbq11.out] at hx159_5); obtain rfl : ad156 = ad159 := (by injection e159); obtain ⟨ce159, hce159, hMe159, hcc159⟩ := Kd.S_get HO144.out z29 0 p159 (by first | exact q159 | exact oA_ | (have e_ := (Kd.S_reads' HO144.out).1; omega)); obtain ⟨ve159_6, rfl, ge159_6⟩ := k29_openM hMe159; have hv159_6 := hcc159 6 _ rfl; rw [add_field _ _ 6 (by omega)] at hv159_6; replace hv159_6 := Option.some.inj (hv159_6.symm.trans hx159_6); rw [hv159_6] at ge159_6; have HL159_6 := Aside0.mk (show Kd.R Kd.string 9 _ _ _ _ ((rd_T29 t142 0).f6) from ge159_6); clear hv159_6 ge159_6; clear hcc159 hce159; have qi159 : (0 < t142.length) = True := eq_true (by omega); (try rw [show ((0 : Int)).toNat = 0 from rfl] at hx159_0); (try rw [show 0 * 7 = 0 from rfl] at hx159_0); (try rw [Addr.add_zero'] at hx159_0); (try rw [show ((0 : Int)).toNat = 0 from rfl] at hx159_1); (try rw [show 0 * 7 = 0 from rfl] at hx159_1); (try rw [Addr.add_zero'] at hx159_1); (try rw [show ((0 : Int)).toNat = 0 from rfl] at hx159_2); (try rw [show 0 * 7 = 0 from rfl] at hx159_2); (try rw [Addr.add_zero'] at hx159_2); (try rw [show ((0 : Int)).toNat = 0 from rfl] at hx159_3); (try rw [show 0 * 7 = 0 from rfl] at hx159_3); (try rw [Addr.add_zero'] at hx159_3); (try rw [show ((0 : Int)).toNat = 0 from rfl] at hx159_4); (try rw [show 0 * 7 = 0 from rfl] at hx159_4); (try rw [Addr.add_zero'] at hx159_4); (try rw [show ((0 : Int)).toNat = 0 from rfl] at hx159_5); (try rw [show 0 * 7 = 0 from rfl] at hx159_5); (try rw [Addr.add_zero'] at hx159_5); (try rw [show ((0 : Int)).toNat = 0 from rfl] at hx159_6); (try rw [show 0 * 7 = 0 from rfl] at hx159_6); (try rw [Addr.add_zero'] at hx159_6); have HR159_6 := Aside0.mk hi159_6; have HC159_6 := Aside0.mk hl159_6; clear hi159_6 hl159_6; replace p159 := eq_true p159; replace q159 := eq_true q159; have ea_ := Option.some.inj (hx156_6.symm.trans hx159_6); injection ea_ with ea_ en_ ec_; subst ea_; subst ec_; clear en_; have p160 : 0 ≤ (0 : Int) := (by omega); have q160 : 0 < (t142.length : Int) := oA_; obtain ⟨ad160, A160_6, c160_6, e160, hx160_0, hx160_1, hx160_2, hx160_3, hx160_4, hx160_5, hx160_6, hl160_6, hi160_6⟩ := at_T29 (Kd.S_reads' HO144.out).2.2 0 p160 q160; (try rw [← Nbq9.out] at hx160_4); (try rw [← Nbq11.out] at hx160_4); (try rw [← Nbq9.out] at hx160_5); (try rw [← Nbq11.out] at hx160_5); obtain rfl : ad156 = ad160 := (by injection e160); obtain ⟨ce160, hce160, hMe160, hcc160⟩ := Kd.S_get HO144.out z29 0 p160 (by first | exact q160 | exact oA_ | (have e_ := (Kd.S_reads' HO144.out).1; omega)); obtain ⟨ve160_6, rfl, ge160_6⟩ := k29_openM hMe160; have hv160_6 := hcc160 6 _ rfl; rw [add_field _ _ 6 (by omega)] at hv160_6; replace hv160_6 := Option.some.inj (hv160_6.symm.trans hx160_6); rw [hv160_6] at ge160_6; have HL160_6 := Aside0.mk (show Kd.R Kd.string 9 _ _ _ _ ((rd_T29 t142 0).f6) from ge160_6); clear hv160_6 ge160_6; clear hcc160 hce160; have qi160 : (0 < t142.length) = True := eq_true (by omega); (try rw [show ((0 : Int)).toNat = 0 from rfl] at hx160_0); (try rw [show 0 * 7 = 0 from rfl] at hx160_0); (try rw [Addr.add_zero'] at hx160_0); (try rw [show ((0 : Int)).toNat = 0 from rfl] at hx160_1); (try rw [show 0 * 7 = 0 from rfl] at hx160_1); (try rw [Addr.add_zero'] at hx160_1); (try rw [show ((0 : Int)).toNat = 0 from rfl] at hx160_2); (try rw [show 0 * 7 = 0 from rfl] at hx160_2); (try rw [Addr.add_zero'] at hx160_2); (try rw [show ((0 : Int)).toNat = 0 from rfl] at hx160_3); (try rw [show 0 * 7 = 0 from rfl] at hx160_3); (try rw [Addr.add_zero'] at hx160_3); (try rw [show ((0 : Int)).toNat = 0 from rfl] at hx160_4); (try rw [show 0 * 7 = 0 from rfl] at hx160_4); (try rw [Addr.add_zero'] at hx160_4); (try rw [show ((0 : Int)).toNat = 0 from rfl] at hx160_5); (try rw [show 0 * 7 = 0 from rfl] at hx160_5); (try rw [Addr.add_zero'] at hx160_5); (try rw [show ((0 : Int)).toNat = 0 from rfl] at hx160_6); (try rw [show 0 * 7 = 0 from rfl] at hx160_6); (try rw [Addr.add_zero'] at hx160_6); have HR160_6 := Aside0.mk hi160_6; have HC160_6 := Aside0.mk hl160_6; clear hi160_6 hl160_6; replace p160 := eq_true p160; replace q160 := eq_true q160; have ea_ := Option.some.inj (hx156_6.symm.trans hx160_6); injection ea_ with ea_ en_ ec_; subst ea_; subst ec_; clear en_; obtain ⟨z35_0, z35_1, y35_0, y35_1⟩ := cz2_ BK155.out))
         go_ret
         exact ⟨E1_, W2_⟩
        ·
         replace c12 := Bool.eq_false_iff.mpr c12
         subst c12
         rw [if_neg (show ¬ (false = true) by decide)] at H
         exact absurd H (by simp)
      ·
       rw [if_neg c8] at H
       exact absurd H (by simp)
     ·
      rw [if_neg c7] at H
      exact absurd H (by simp)
    ·
     rw [if_neg c6] at H
     exact absurd H (by simp)
   ·
    rw [if_neg c5] at H
    exact absurd H (by simp)
  ·
   rw [if_neg c4] at H
   exact absurd H (by simp)
 ·
  rw [if_neg c3] at H
  exact absurd H (by simp)

/-! ### pantrymade_Site: function 14 -/
def pantrymade_Site.f (a0_0 : ByteArray) (a0_1 : Int) (a0_2 : Int) (a0_3 : Int) (a0_4 : Bool) (a0_5 : Bool) (l0_6 : List ByteArray) : Option (ByteArray × Int × Int × Int × Bool × Bool × List ByteArray) := some (a0_0, a0_1, a0_2, a0_3, a0_4, a0_5, l0_6)
set_option maxHeartbeats 8000000 in
set_option maxRecDepth 100000 in
theorem pantrymade_Site.calls (a0_0 : ByteArray) (a0_1 : Int) (a0_2 : Int) (a0_3 : Int) (a0_4 : Bool) (a0_5 : Bool) (P0_6_ : Nat → Prop) (A0_6 : Option Addr) (c0_6 : Nat) (l0_6 : List ByteArray) (r1 : ByteArray) (r2 : Int) (r3 : Int) (r4 : Int) (r5 : Bool) (r6 : Bool) (r7 : List ByteArray) (w : World) (hs0_6 : Kd.V Kd.string 9 w w.heap.size (fun k_ => P0_6_ k_) (.slice A0_6 l0_6.length c0_6) l0_6) (h : pantrymade_Site.f a0_0 a0_1 a0_2 a0_3 a0_4 a0_5 l0_6 = some (r1, r2, r3, r4, r5, r6, r7)) :
  Calls Tryd.prog 14 #[.agg #[.string a0_0, .int .i64 a0_1, .int .i64 a0_2, .int .i64 a0_3, .bool a0_4, .bool a0_5, .slice A0_6 l0_6.length c0_6]] w fun e w' => ∃ v6_ : Value, e = .returned (.agg #[.string r1, .int .i64 r2, .int .i64 r3, .int .i64 r4, .bool r5, .bool r6, v6_]) ∧ Kd.V Kd.string 9 w' w.heap.size (fun k_ => (P0_6_ k_ ∨ w.heap.size ≤ k_)) v6_ r7 ∧ Below w.heap.size w w' := by
 have hu29 := Tryd.underlying29
 have hu38 := Tryd.underlying38
 have HO0_6 := Aside0.mk (show Kd.V Kd.string 9 w w.heap.size (fun k_ => (P0_6_ k_ ∨ w.heap.size ≤ k_)) (.slice A0_6 l0_6.length c0_6) l0_6 from Kd.V_mono hs0_6 (fun k_ hk => .inl hk))
 have HB := Aside0.mk (Below.refl w.heap.size w)
 have H : (some (a0_0, a0_1, a0_2, a0_3, a0_4, a0_5, l0_6)) = some (r1, r2, r3, r4, r5, r6, r7) := h
 clear h
 simp only [Option.some.injEq, Prod.mk.injEq] at H
 obtain ⟨rfl, rfl, rfl, rfl, rfl, rfl, rfl⟩ := H
 go_enter Tryd.func14, Tryd.ntmps14
 go_wp2_with (first | ((with_reducible refine gate_dst (N := 1) rfl ?_); refine box_event ?hg (N := 1) ?hd (cs := #[.string a0_0, .int .i64 a0_1, .int .i64 a0_2, .int .i64 a0_3, .bool a0_4, .bool a0_5, .slice A0_6 l0_6.length c0_6]) (t := 29) ?hr ?_; (case hd | hg => rfl); (case hr => exact S1_); intro gb161 hg w2 hbox hb; have BK161 := Aside0.mk (hbox); have GW161 := Aside0.mk ((Z1_ : w.heap.size ≤ gb161)); have GE161 := Aside0.mk ((Z1_ : w.heap.size ≤ gb161)); replace HO0_6 := Aside0.mk (Kd.V_below (Kd.V_elderB (by (with_reducible repeat (first | apply Kd.V_alloc | apply Kd.V_drewN | apply Kd.V_drew)); exact HO0_6.out) gb161 (Nat.le_of_eq hg.symm)) hb); replace HB := y1_ hb; clear hb hbox hg) | ((with_reducible refine gate_dst (N := 2) rfl ?_); refine box_event ?hg (N := 2) ?hd (cs := #[.string (⟨#[]⟩ : ByteArray), .int .i64 0, .int .i64 0, .int .i64 0, .bool false, .bool false, .slice none 0 0]) (t := 38) ?hr ?_; (case hd | hg => rfl); (case hr => exact S1_); intro gb162 hg w3 hbox hb; have BK162 := Aside0.mk (hbox); have GW162 := Aside0.mk ((Z2_ : w.heap.size ≤ gb162)); have GE162 := Aside0.mk ((Z2_ : w.heap.size ≤ gb162)); have NB161_162 := Aside0.mk ((by rw [hg]; exact Nat.ne_of_lt (blk_lt (B1_ BK161.out)) : gb161 ≠ gb162)); have NB162_161 := Aside0.mk ((by rw [hg]; exact Nat.ne_of_gt (blk_lt (B1_ BK161.out)) : gb162 ≠ gb161)); replace HO0_6 := Aside0.mk (Kd.V_below (Kd.V_elderB (by (with_reducible repeat (first | apply Kd.V_alloc | apply Kd.V_drewN | apply Kd.V_drew)); exact HO0_6.out) gb162 (Nat.le_of_eq hg.symm)) hb); replace BK161 := yB_ BK161 hb; replace HB := y2_ hb; clear hb hbox hg; have hnb4 := NB161_162.out; have hnc4 := NB162_161.out; obtain ⟨z5_0, z5_1, z5_2, z5_3, z5_4, z5_5, z5_6, y5_0, y5_1, y5_2, y5_3, y5_4, y5_5, y5_6⟩ := cz7_ BK161.out; obtain ⟨z6_0, z6_1, z6_2, z6_3, z6_4, z6_5, z6_6, y6_0, y6_1, y6_2, y6_3, y6_4, y6_5, y6_6⟩ := cz7_ BK162.out))
 refine bodyPost_ret (results_cell_row rfl _ _ gb162 38 #[.string a0_0, .int .i64 a0_1, .int .i64 a0_2, .int .i64 a0_3, .bool a0_4, .bool a0_5, .slice A0_6 l0_6.length c0_6] (0, 0) _ rfl (G1_ BK162.out) Tryd.underlying38 rfl (by kernel_rfl)) rfl ?_
 exact ⟨_, E1_, by (with_reducible repeat (first | apply Kd.V_alloc | apply Kd.V_drewN | apply Kd.V_drew)); exact Kd.V_mono (Kd.V_far (p := ⟨gb162, 6, none⟩) (Kd.V_far (p := ⟨gb162, 5, none⟩) (Kd.V_far (p := ⟨gb162, 4, none⟩) (Kd.V_far (p := ⟨gb162, 3, none⟩) (Kd.V_far (p := ⟨gb162, 2, none⟩) (Kd.V_far (p := ⟨gb162, 1, none⟩) (Kd.V_far (p := ⟨gb162, 0, none⟩) (Kd.V_mono HO0_6.out (fun k_ hk => (⟨hk, hk.2⟩ : _ ∧ k_ ≠ gb162))) (fun _ hk => hk.2) (.string a0_0)) (fun _ hk => hk.2) (.int .i64 a0_1)) (fun _ hk => hk.2) (.int .i64 a0_2)) (fun _ hk => hk.2) (.int .i64 a0_3)) (fun _ hk => hk.2) (.bool a0_4)) (fun _ hk => hk.2) (.bool a0_5)) (fun _ hk => hk.2) (.slice A0_6 l0_6.length c0_6)) (fun _ hk => hk.1.1.1), W2_⟩

end Go.Proofs.YtfcifigemiafgaaDoor.PAll
