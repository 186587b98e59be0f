import Derived.Deep.Cut
import Derived.Deep.CutRange
import Derived.Deep.CutBlock
import Derived.Test.YtlncpbnadlpihaaGreatDoorPAllx0
import Derived.Test.YtlncpbnadlpihaaGreatDoorPAllx8
import Derived.Test.YtlncpbnadlpihaaGreatDoorPAllx9
import Derived.Test.YtlncpbnadlpihaaGreatDoorPAllx12
import Derived.Test.YtlncpbnadlpihaaGreatDoorPAllx13
import Derived.Test.YtlncpbnadlpihaaGreatDoorPAllx14
import Derived.Test.YtlncpbnadlpihaaGreatDoorPAllx15
namespace Go.Proofs.YtlncpbnadlpihaaGreatDoor.PAll
open Go.RowKit Go.Proofs.YtlncpbnadlpihaaGreatDoorW.PrintWords Go.Proofs.YtlncpbnadlpihaaGreatDoorW.PrintLast Go.Proofs.YtlncpbnadlpihaaGreatDoorW.PrintMore
attribute [local go_sem] max2_int min2_int max_two min_two max_three min_three max_four min_four   -- for this text's walks alone
set_option linter.unusedVariables false
set_option linter.unusedSimpArgs false

/-! ### conf_Read: function 33, by hand -/
-- over 44
theorem results_cc {P : Program} {fn : Func} {p q : Tmp} {ty ty2 : TypeId} (h : fn.results = #[.cell p ty, .cell q ty2]) (tmps : Array Value) (w : World) (g : Nat) (t : TypeId) (cs : Array Value) (fr : Nat × Nat) (d : TypeDesc) (g2 : Nat) (t2 : TypeId) (cs2 : Array Value) (fr2 : Nat × Nat) (d2 : TypeDesc)
  (hp : tmps.getD p undef = .pointer (some ⟨g, 0, none⟩)) (hg : w.heap[g]? = some (.cells cs t fr))
  (hu : P.underlying ty = some d) (hd : (match d with | .struct _ | .array _ _ => true | _ => false) = true) (hi : (P.info? ty).map (·.size) = some cs.size)
  (hp2 : tmps.getD q undef = .pointer (some ⟨g2, 0, none⟩)) (hg2 : w.heap[g2]? = some (.cells cs2 t2 fr2))
  (hu2 : P.underlying ty2 = some d2) (hd2 : (match d2 with | .struct _ | .array _ _ => true | _ => false) = true) (hi2 : (P.info? ty2).map (·.size) = some cs2.size) :
  (results fn tmps).run P w = .ok (.tuple #[.agg cs, .agg cs2]) w := by
 have hp' : tmps[p]?.getD undef = .pointer (some ⟨g, 0, none⟩) := by simpa using hp
 have hp2' : tmps[q]?.getD undef = .pointer (some ⟨g2, 0, none⟩) := by simpa using hp2
 simp [results, h, hp', hp2', asAddr, run_loadVar_row w g t ty cs fr d hg hu hd hi, run_loadVar_row w g2 t2 ty2 cs2 fr2 d2 hg2 hu2 hd2 hi2]
def readL : Nat → RS → List S57 → Option (RS × List S57)
 | 0, _, _ => none
 | k + 1, s, xs => if s.code = 0 then (if 1 < s.ws.length then (if xs.length ≤ 8 then (siteF k s xs).bind fun r => readL k r.1 (xs ++ [r.2]) else none) else some (s, xs)) else some (s, xs)
def conf_Read.f (k : Nat) (t : ByteArray) : Option (List S57 × Int × Int) :=
 if 4096 < t.size then some ([], 32, 1) else (wordsF k t).bind fun ws =>
  if 0 < ws.length ∧ ws.all (fun p => decide (p.1.size ≤ 4096)) = true then (readL k ⟨ws, 0, 0⟩ []).bind fun r => if r.1.code = 0 ∧ r.1.line = 0 then some (r.2, 0, 0) else some ([], r.1.code, r.1.line) else none
theorem readL_mono : ∀ k s xs, LeO (readL k s xs) (readL (k + 1) s xs)
 | 0, _, _ => fun r h => by simp [readL] at h
 | k + 1, s, xs => by
  have ih := readL_mono k
  unfold readL
  repeat' (with_reducible first | exact ih _ _ | exact siteF_mono _ _ _ | exact lR_ | refine LeO.ite ?_ ?_ | refine LeO.bind ?_ (fun _ => ?_))
theorem conf_Read.mono : ∀ k t, LeO (conf_Read.f k t) (conf_Read.f (k + 1) t) := by
 intro k t
 unfold conf_Read.f
 repeat' (with_reducible first | exact readL_mono _ _ _ | exact wordsF_mono _ _ | exact lR_ | refine LeO.ite ?_ ?_ | refine LeO.bind ?_ (fun _ => ?_))
theorem rulesL_small : ∀ k s x seen r, rulesL k s x seen = some r → s.small → r.1.small
 | 0, _, _, _, _ => fun h => by simp [rulesL] at h
 | k + 1, s, x, seen, r => fun h hs => by
  have ih := rulesL_small k
  simp only [rulesL] at h
  split at h
  ·
   split at h
   ·
    obtain rfl := Option.some.inj h
    exact hs
   ·
    split at h
    ·
     obtain ⟨p, hp, h⟩ := Option.bind_eq_some_iff.mp h
     exact ih _ _ _ _ h (ruleF_small hp hs).1
    ·
     cases h
  ·
   obtain rfl := Option.some.inj h
   exact hs
theorem siteF_small {k : Nat} {s : RS} {xs : List S57} {r : RS × S57} (h : siteF k s xs = some r) (hs : s.small) : r.1.small := by
 have h1 : (siteA s xs.length).small := by
  unfold siteA
  refine RS.small_must ?_ _
  split
  ·
   exact RS.small_fail hs _
  ·
   exact hs
 unfold siteF at h
 obtain ⟨p, _, h⟩ := Option.bind_eq_some_iff.mp h
 obtain ⟨q, _, h⟩ := Option.bind_eq_some_iff.mp h
 obtain ⟨a, ha, h⟩ := Option.bind_eq_some_iff.mp h
 obtain rfl := Option.some.inj h
 have h2 : (siteH (siteA s xs.length) p.1 p.2).small := by
  unfold siteH
  split
  ·
   exact RS.small_fail h1 _
  ·
   exact h1
 refine RS.small_must (rulesL_small _ _ _ _ _ ha (RS.small_must (RS.small_take ?_) _)) _
 split
 ·
  exact RS.small_fail h2 _
 ·
  exact h2
/-- Where Read's loop begins: the reader and the config are made. -/
theorem CfI.start {w0 : World} {base : Nat} {A : Option Addr} {c : Nat} {ws : List WD} (hR : Kd.R kW 113 w0 base (fun _ => True) (.slice A ws.length c) ws) (hne : 0 < ws.length) (hwf : WF w0) :
  CfI w0 ((w0.alloc (.cells #[.slice A ws.length c, .int .i64 0, .int .i64 0] 95)).alloc (.cells #[.slice none 0 0] 24)) w0.heap.size (w0.heap.size + 1) ((w0.alloc (.cells #[.slice A ws.length c, .int .i64 0, .int .i64 0] 95)).alloc (.cells #[.slice none 0 0] 24)) ⟨ws, 0, 0⟩ [] (.slice none 0 0) ∧
  CfA w0 ((w0.alloc (.cells #[.slice A ws.length c, .int .i64 0, .int .i64 0] 95)).alloc (.cells #[.slice none 0 0] 24)) w0.heap.size (w0.heap.size + 1) := by
 have s1 : (w0.alloc (.cells #[.slice A ws.length c, .int .i64 0, .int .i64 0] 95)).heap.size = w0.heap.size + 1 := by simp
 have s2 : ((w0.alloc (.cells #[.slice A ws.length c, .int .i64 0, .int .i64 0] 95)).alloc (.cells #[.slice none 0 0] 24)).heap.size = w0.heap.size + 2 := by simp
 have h1 := heap_alloc_new w0 (.cells #[.slice A ws.length c, .int .i64 0, .int .i64 0] 95)
 have h2 := heap_alloc_new (w0.alloc (.cells #[.slice A ws.length c, .int .i64 0, .int .i64 0] 95)) (.cells #[.slice none 0 0] 24)
 rw [s1] at h2
 have hb : Below w0.heap.size w0 ((w0.alloc (.cells #[.slice A ws.length c, .int .i64 0, .int .i64 0] 95)).alloc (.cells #[.slice none 0 0] 24)) := ((Below.refl w0.heap.size w0).alloc (Nat.le_refl _) _).alloc (by rw [s1]; omega) _
 obtain ⟨gb, cap, he, _, _, _⟩ := Kd.R_form hR hne
 obtain ⟨rfl, rfl⟩ : A = some ⟨gb, 0, none⟩ ∧ c = cap := by simpa using he
 obtain ⟨_, hle, hC⟩ := Kd.R_reads' hR
 refine ⟨⟨⟨⟨gb, 0, ws.length, c, rfl, bA_ h1 _, hle, fun j hj => ?_⟩, List.length_pos_iff.1 hne, hb, Nat.le_refl _⟩, h2, Kd.S_nil _ _ _ _ _, Kept.refl_ _ _⟩, ⟨by omega, by rw [s2]; omega, by rw [s2]; omega, by omega, hwf⟩⟩
 have hj' : j < ws.length := hj
 obtain ⟨ad, cc, hA, _, hK, hcells⟩ := Kd.C_get hC (emptyB, 0) (j : Int) (by omega) (by omega)
 obtain rfl := Option.some.inj hA
 obtain ⟨_, _, rfl, rfl, rfl⟩ := hK
 have e0 := hcells 0 _ rfl
 have e1 := hcells 1 _ rfl
 rw [add_plain] at e0 e1
 rw [Int.toNat_natCast] at e0 e1
 have hg : ws.getD j (emptyB, 0) = ws[j] := by simp [List.getD, hj]
 rw [hg] at e0 e1
 exact ⟨by rw [Nat.zero_add]; exact e0, by rw [Nat.zero_add]; exact e1⟩

set_option maxHeartbeats 4000000 in
set_option maxRecDepth 100000 in
theorem conf_Read.calls (k : Nat) (t : ByteArray) (r1 : List S57) (r2 r3 : Int) (w : World) (hrW : WF w) (h : conf_Read.f k t = some (r1, r2, r3)) :
  Calls Tryz.prog 33 #[.string t] w fun e w' => ∃ v0_, e = .returned (.tuple #[.agg #[v0_], .agg #[.int .i64 r2, .int .i64 r3]]) ∧ Kd.S k57 57 w' w.heap.size (fun _ => True) v0_ r1 ∧ Below w.heap.size w w' := by
 have HWF := Aside0.mk hrW
 clear hrW
 have hu24 := Tryz.underlying24
 have hu48 := Tryz.underlying79
 have hz1 : (w.alloc (.cells #[.slice none 0 0] 24)).heap.size = w.heap.size + 1 := by simp
 have B2 : Aside0 (((w.alloc (.cells #[.slice none 0 0] 24)).alloc (.cells #[.int .i64 0, .int .i64 0] 79)).heap[w.heap.size]? = some (.cells #[.slice none 0 0] 24 (0, 0))) := ⟨bA_ (heap_alloc_new w _) _⟩
 have B3 : Aside0 (((w.alloc (.cells #[.slice none 0 0] 24)).alloc (.cells #[.int .i64 0, .int .i64 0] 79)).heap[w.heap.size + 1]? = some (.cells #[.int .i64 0, .int .i64 0] 79 (0, 0))) := ⟨by have h_ := heap_alloc_new (w.alloc (.cells #[.slice none 0 0] 24)) (.cells #[.int .i64 0, .int .i64 0] 79); rw [hz1] at h_; exact h_⟩
 have HB : Aside0 (Below w.heap.size w ((w.alloc (.cells #[.slice none 0 0] 24)).alloc (.cells #[.int .i64 0, .int .i64 0] 79))) := ⟨((Below.refl w.heap.size w).alloc (Nat.le_refl _) _).alloc (by rw [hz1]; omega) _⟩
 clear hz1
 unfold conf_Read.f at h
 by_cases c0 : 4096 < t.size
 ·
  rw [if_pos c0] at h
  obtain ⟨rfl, rfl, rfl⟩ : [] = r1 ∧ 32 = r2 ∧ 1 = r3 := by simpa using h
  have q0 : decide ((t.size : Int) > 4096) = true := decide_eq_true (by omega)
  have q1 : decide (4096 < (t.size : Int)) = true := decide_eq_true (by omega)
  clear c0 h
  go_enter Tryz.func33, Tryz.ntmps33
  go_upto_region 1 with fail
  generalize ((w.alloc (.cells #[.slice none 0 0] 24)).alloc (.cells #[.int .i64 0, .int .i64 0] 79)) = w2 at *
  have z2 : w2.cell? ⟨w.heap.size, 0, none⟩ = some (.slice none 0 0) := xC_ B2.out 0
  have z3 : w2.cell? ⟨w.heap.size + 1, 0, none⟩ = some (.int .i64 0) := xC_ B3.out 0
  have z4 : w2.cell? ⟨w.heap.size + 1, 1, none⟩ = some (.int .i64 0) := xC_ B3.out 1
  have y2 : w2.frozen? ⟨w.heap.size, 0, none⟩ = false := blk_frozen B2.out 0
  have y3 : w2.frozen? ⟨w.heap.size + 1, 0, none⟩ = false := blk_frozen B3.out 0
  have y4 : w2.frozen? ⟨w.heap.size + 1, 1, none⟩ = false := blk_frozen B3.out 1
  go_wp2
  (try simp only [Exit.inBlock, Exit.then])
  refine bodyPost_ret (results_cc rfl _ _ w.heap.size 24 #[.slice none 0 0] (0, 0) _ (w.heap.size + 1) 79 #[.int .i64 32, .int .i64 1] (0, 0) _ rfl (blk_ne (blk_ne (blk_put B2.out 0 (.slice none 0 0) rfl) (by omega)) (by omega)) hu24 rfl (by kernel_rfl) rfl (blk_put (blk_put (blk_ne B3.out (by omega)) 0 (.int .i64 32) rfl) 1 (.int .i64 1) rfl) hu48 rfl (by kernel_rfl)) rfl ?_
  exact ⟨_, rfl, Kd.S_nil _ _ _ _ _, ((HB.out.setCell (by simp) _).setCell (by simp) _).setCell (by simp) _⟩
 rw [if_neg c0] at h
 have q0 : decide ((t.size : Int) > 4096) = false := decide_eq_false (by omega)
 have q1 : decide (4096 < (t.size : Int)) = false := decide_eq_false (by omega)
 clear c0
 obtain ⟨ws, hw, h⟩ := Option.bind_eq_some_iff.mp h
 by_cases c1 : 0 < ws.length ∧ ws.all (fun p => decide (p.1.size ≤ 4096)) = true
 case neg => rw [if_neg c1] at h; cases h
 rw [if_pos c1] at h
 obtain ⟨r0, hl, h⟩ := Option.bind_eq_some_iff.mp h
 have HW := Aside0.mk hw
 have HL := Aside0.mk hl
 have HE := Aside0.mk h
 have HN := Aside0.mk c1.1
 have HSM : Aside0 (RS.small ⟨ws, 0, 0⟩) := ⟨fun p hp => by have h_ := List.all_eq_true.1 c1.2 p hp; have h2_ := of_decide_eq_true h_; omega⟩
 clear hw hl h c1
 go_enter Tryz.func33, Tryz.ntmps33
 go_upto_region 1 with fail
 generalize ((w.alloc (.cells #[.slice none 0 0] 24)).alloc (.cells #[.int .i64 0, .int .i64 0] 79)) = w2 at *
 go_wp2_with fail
 refine (words_calls k w2 t ws HW.out).mono ?_
 rintro e w3 ⟨v, rfl, hR, hb3⟩
 obtain ⟨A, c, rfl⟩ := Kd.R_slice hR
 have HST := Aside0.mk (CfI.start hR HN.out ((HWF.out.below HB.out).below hb3))
 have HB3 := Aside0.mk hb3
 clear hR hb3 HW
 go_upto_block 0 with fail
 have HW3 : Aside0 (Below w3.heap.size w3 ((w3.alloc (.cells #[.slice A ws.length c, .int .i64 0, .int .i64 0] 95)).alloc (.cells #[.slice none 0 0] 24))) := ⟨HST.out.1.rd.2.2.1⟩
 have blk_lt2 := Aside0.mk (blk_lt B3.out)
 have HA := Aside0.mk HST.out.2
 have HI := Aside0.mk HST.out.1
 clear HST
 generalize ((w3.alloc (.cells #[.slice A ws.length c, .int .i64 0, .int .i64 0] 95)).alloc (.cells #[.slice none 0 0] 24)) = W at *
 have HG : Aside0 (w2.heap.size ≤ w3.heap.size) := ⟨HB3.out.size⟩
 generalize hcb : w3.heap.size + 1 = cb at HA HI ⊢
 have HCB := Aside0.mk hcb
 clear hcb
 generalize hgg : w3.heap.size = g at HA HI ⊢
 have HGG := Aside0.mk hgg
 clear hgg
 go_cut [] from 31 (fun wc => ∃ v : Value, Aside0 (CfI w3 W g cb wc r0.1 r0.2 v))
 case first =>
  go_wp2_with fail
  go_loopg [] k (fun kq w' => ∃ (s : RS) (xs : List S57) (v : Value), Aside0 (readL kq s xs = some r0) ∧ Aside0 (kq ≤ k) ∧ Aside0 (CfI w3 W g cb w' s xs v) ∧ Aside0 s.small)
  case atStart => exact ⟨_, [], _, HL, ⟨Nat.le_refl _⟩, HI, HSM⟩
  case round =>
   clear HL HI HSM
   obtain ⟨s, xs, v, HL, HQ, HI, HSM⟩ := hrel
   cases gk with
   | zero => exact absurd HL.out (by simp [readL])
   | succ k1 =>
    have H := HL.out
    clear HL
    simp only [readL] at H
    obtain ⟨wb, off, n, cap, hn, hh, _, _⟩ := HI.out.rd.1
    have g0 := (blk_cell hh 0).trans rfl
    have g1 := (blk_cell hh 1).trans rfl
    clear hh
    by_cases c1 : s.code = 0
    ·
     rw [if_pos c1] at H
     have p1 : (s.code == 0) = true := beq_iff_eq.mpr c1
     clear c1
     by_cases c2 : 1 < s.ws.length
     ·
      rw [if_pos c2] at H
      have p2 : decide ((n : Int) > 1) = true := decide_eq_true (by omega)
      have p3 : decide (1 < (n : Int)) = true := decide_eq_true (by omega)
      have p4 : decide (1 < n) = true := decide_eq_true (by omega)
      clear c2 hn
      by_cases c3 : xs.length ≤ 8
      case neg => rw [if_neg c3] at H; cases H
      rw [if_pos c3] at H
      obtain ⟨⟨s2, x2⟩, hs, H⟩ := Option.bind_eq_some_iff.mp H
      have HS := Aside0.mk hs
      have HH := Aside0.mk H
      have HC3 := Aside0.mk c3
      clear hs H c3
      go_wp2_with fail
      refine (rs_site k1 w3 W wr g cb s xs v _ HI.out HA.out HSM.out HC3.out HS.out).mono ?_
      rintro e w5 ⟨rfl, v5, hI5⟩
      have HI5 := Aside0.mk hI5
      have HS5 := Aside0.mk (siteF_small HS.out HSM.out)
      clear hI5 HI HSM HS g0 g1
      go_wp2
      go_roundg k1
      case measure => have h_ := HQ.out; omega
      case rel => exact ⟨_, _, v5, HH, ⟨by have h_ := HQ.out; omega⟩, HI5, HS5⟩
     ·
      rw [if_neg c2] at H
      obtain rfl := Option.some.inj H
      have p2 : decide ((n : Int) > 1) = false := decide_eq_false (by omega)
      have p3 : decide (1 < (n : Int)) = false := decide_eq_false (by omega)
      have p4 : decide (1 < n) = false := decide_eq_false (by omega)
      clear c2 H hn
      go_wp2
      go_meet
      case rel => exact ⟨v, HI⟩
    ·
     rw [if_neg c1] at H
     obtain rfl := Option.some.inj H
     have p1 : (s.code == 0) = false := beq_eq_false_iff_ne.mpr c1
     clear c1 H
     go_wp2
     go_meet
     case rel => exact ⟨v, HI⟩
 case rest =>
  clear HL HI HSM
  obtain ⟨v, HC⟩ := hcut
  obtain ⟨wb, off, n, cap, hn, hh, _, _⟩ := HC.out.rd.1
  obtain ⟨cd, hcd⟩ : ∃ cd, cd = r0.1.code := ⟨_, rfl⟩
  obtain ⟨ln, hln⟩ : ∃ ln, ln = r0.1.line := ⟨_, rfl⟩
  rw [← hcd, ← hln] at hh HE
  have BG := Aside0.mk hh
  have g1 : wc.cell? ⟨g, 1, none⟩ = some (.int .i64 cd) := (blk_cell hh 1).trans rfl
  have g2 : wc.cell? ⟨g, 2, none⟩ = some (.int .i64 ln) := (blk_cell hh 2).trans rfl
  clear hh hn hcd hln
  have K2 : Aside0 (Kept w2 wc (fun _ => False)) := ⟨Kept.then_ (Kept.then_ (Kept.below_ _ HB3.out) (show Kept w3 W (fun _ => False) from Kept.below_ _ HW3.out) (fun _ h_ => h_.elim)) HC.out.kept (fun k h_ => by have h1_ := HG.out; have h2_ := HGG.out; have h3_ := HCB.out; rcases h_ with h_ | h_ <;> exact .inr (by omega))⟩
  have B2 := Aside0.mk (blk_kept B2.out K2.out id)
  have B3 := Aside0.mk (blk_kept B3.out K2.out id)
  have HBC : Aside0 (Below w.heap.size w wc) := ⟨(HB.out.trans (below_lower HB3.out HB.out.size)).trans (below_lower HC.out.rd.2.2.1 (by have h_ := HB.out.size; have h2_ := HG.out; omega))⟩
  by_cases c4 : cd = 0 ∧ ln = 0
  ·
   have FAR : Aside0 (∀ k, W.heap.size ≤ k → k ≠ w.heap.size ∧ k ≠ w.heap.size + 1) := ⟨fun k hk => by have a1 := HA.out.g_lt; have a2 := HG.out; have a3 := HGG.out; have a4 := blk_lt2.out; exact ⟨by omega, by omega⟩⟩
   have FARW : Aside0 (w.heap.size ≤ W.heap.size) := ⟨by have a1 := HA.out.g_lt; have a2 := HG.out; have a3 := HGG.out; have a4 := blk_lt2.out; omega⟩
   obtain ⟨rfl, rfl⟩ := c4
   have hE := HE.out
   rw [if_pos ⟨rfl, rfl⟩] at hE
   obtain ⟨rfl, rfl, rfl⟩ : r0.2 = r1 ∧ 0 = r2 ∧ 0 = r3 := by simpa using hE
   clear hE HE
   obtain ⟨A5, c5, rfl⟩ := Kd.S_slice HC.out.row
   have cc : wc.cell? ⟨cb, 0, none⟩ = some (.slice A5 r0.2.length c5) := (blk_cell HC.out.cf 0).trans rfl
   have z2 : wc.cell? ⟨w.heap.size, 0, none⟩ = some (.slice none 0 0) := xC_ B2.out 0
   have z3 : wc.cell? ⟨w.heap.size + 1, 0, none⟩ = some (.int .i64 0) := xC_ B3.out 0
   have z4 : wc.cell? ⟨w.heap.size + 1, 1, none⟩ = some (.int .i64 0) := xC_ B3.out 1
   have y2 : wc.frozen? ⟨w.heap.size, 0, none⟩ = false := blk_frozen B2.out 0
   have y3 : wc.frozen? ⟨w.heap.size + 1, 0, none⟩ = false := blk_frozen B3.out 0
   have y4 : wc.frozen? ⟨w.heap.size + 1, 1, none⟩ = false := blk_frozen B3.out 1
   go_wp2
   (try simp only [Exit.inBlock, Exit.then])
   refine bodyPost_ret (results_cc rfl _ _ w.heap.size 24 #[.slice A5 r0.2.length c5] (0, 0) _ (w.heap.size + 1) 79 #[.int .i64 0, .int .i64 0] (0, 0) _ rfl (blk_ne (blk_ne (blk_put B2.out 0 (.slice A5 r0.2.length c5) rfl) (by omega)) (by omega)) hu24 rfl (by kernel_rfl) rfl (blk_put (blk_put (blk_ne B3.out (by omega)) 0 (.int .i64 0) rfl) 1 (.int .i64 0) rfl) hu48 rfl (by kernel_rfl)) rfl ?_
   exact ⟨_, rfl, Kd.S_lower (Kd.S_mono (Kd.S_far (Kd.S_far (Kd.S_far HC.out.row (fun k hk => (FAR.out k hk).1) _) (fun k hk => (FAR.out k hk).2) _) (fun k hk => (FAR.out k hk).2) _) (fun _ _ => trivial)) FARW.out, ((HBC.out.setCell (by simp) _).setCell (by simp) _).setCell (by simp) _⟩
  ·
   by_cases c5 : cd = 0
   ·
    subst c5
    have c6 : ln ≠ 0 := fun e_ => c4 ⟨rfl, e_⟩
    have hE := HE.out
    rw [if_neg c4] at hE
    obtain ⟨rfl, rfl, rfl⟩ : [] = r1 ∧ 0 = r2 ∧ ln = r3 := by simpa using hE
    clear hE HE
    have p0 : (ln == 0) = false := beq_eq_false_iff_ne.mpr c6
    have p1 : (ln != 0) = true := bne_iff_ne.mpr c6
    have p2 : decide (ln = 0) = false := decide_eq_false c6
    have p3 : (ln = 0) = False := eq_false c6
    clear c4 c6
    have NG2 : Aside0 (g ≠ w.heap.size) := ⟨by have h_ := HG.out; have h2_ := blk_lt2.out; have h3_ := HGG.out; omega⟩
    have N32 : Aside0 (w.heap.size + 1 ≠ w.heap.size) := ⟨by omega⟩
    go_upto_region 8 with fail
    refine start_ (n := 7) (S := fun w' => w'.cell? ⟨g, 1, none⟩ = some (.int .i64 0) ∧ w'.cell? ⟨g, 2, none⟩ = some (.int .i64 ln)) (ds := [6]) #[false, false, false, false, false, false, false] (by kernel_rfl) rfl rfl ⟨g1, g2⟩ (fun hHeld => ?_)
    refine pure_ (i := 0) (N := some 37) (v := ?_) (a' := ?_) #[true, false, false, false, false, false, false] rfl rfl (by kernel_rfl) (fun _ _ _ h => h) (Or.inl ⟨by rfl, ?_⟩) ?_ ?_
    rotate_left
    ·
     intro w'
     go_simp
     with_reducible rfl
    rotate_left
    ·
     simp only [Act.put, sA_, sZ_, sS_, i64_w, i32_w]
     rfl
    refine pure_ (i := 1) (N := some 38) (v := ?_) (a' := ?_) #[true, true, false, false, false, false, false] rfl rfl (by kernel_rfl) (fun _ _ _ h => h) (Or.inl ⟨by rfl, ?_⟩) ?_ ?_
    rotate_left
    ·
     intro w'
     go_simp
     with_reducible rfl
    rotate_left
    ·
     simp only [Act.put, sA_, sZ_, sS_, i64_w, i32_w]
     rfl
    refine pure_ (i := 2) (N := some 39) (v := ?_) (a' := ?_) #[true, true, true, false, false, false, false] rfl rfl (by kernel_rfl) (fun _ _ _ h => h) (Or.inl ⟨by rfl, ?_⟩) ?_ ?_
    rotate_left
    ·
     intro w'
     go_simp
     with_reducible rfl
    rotate_left
    ·
     simp only [Act.put, sA_, sZ_, sS_, i64_w, i32_w]
     rfl
    refine pure_ (i := 3) (N := some 40) (v := ?_) (a' := ?_) #[true, true, true, true, false, false, false] rfl rfl (by kernel_rfl) (fun _ _ _ h => h) (Or.inl ⟨by rfl, ?_⟩) ?_ ?_
    rotate_left
    ·
     intro w'
     go_simp
     with_reducible rfl
    rotate_left
    ·
     simp only [Act.put, sA_, sZ_, sS_, i64_w, i32_w]
     rfl
    refine take_ (i := 4) (N := some 41) (v := ?_) (a' := ?_) #[true, true, true, true, true, false, false] rfl rfl (by kernel_rfl) (fun _ _ _ h => h) (Or.inl ⟨by rfl, ?_⟩) hHeld ?_ ?_
    rotate_left
    ·
     rintro w' ⟨s0, s1⟩
     go_simp
     with_reducible rfl
    rotate_left
    ·
     simp only [Act.put, sA_, sZ_, sS_, i64_w, i32_w]
     rfl
    refine one_ (i := 5) (N := none) #[true, true, true, true, true, true, false] rfl rfl (by kernel_rfl) (by decide) (fun K hK => ?_)
    have fa_ := blk_frozen B2.out 0
    have ia_ := xC_ B2.out 0
    refine skip_ (w1 := ?_) (by rfl) rfl ?_ ?_
    rotate_left
    ·
     go_simp
     rfl
    refine hK.out _ _ ⟨((Lib.cell_of_heap (blk_ne BG.out NG2.out) 1).trans rfl), ((Lib.cell_of_heap (blk_ne BG.out NG2.out) 2).trans rfl)⟩ (fun hHeld => ?_)
    clear hK K
    refine last_ (i := 6) (N := none) #[true, true, true, true, true, true, true] rfl rfl (by kernel_rfl) (by decide) (fun K hK => ?_)
    have hB3' := blk_ne (u := .slice none 0 0) (i := 0) B3.out N32.out
    have fb0_ := blk_frozen hB3' 0
    have fb1_ := blk_frozen hB3' 1
    have ib0_ := (blk_cell hB3' 0).trans rfl
    have ib1_ := (blk_cell hB3' 1).trans rfl
    refine skip_ (w1 := ?_) (by rfl) rfl ?_ ?_
    rotate_left
    ·
     go_simp
     rfl
    refine hK.out _ _ ?_
    clear hK K
    refine done_ (by kernel_rfl) ?_
    go_wp2
    (try simp only [Exit.inBlock, Exit.then])
    refine bodyPost_ret (results_cc rfl _ _ w.heap.size 24 #[.slice none 0 0] (0, 0) _ (w.heap.size + 1) 79 #[.int .i64 0, .int .i64 ln] (0, 0) _ rfl (blk_ne (blk_ne (blk_put B2.out 0 (.slice none 0 0) rfl) (by omega)) (by omega)) hu24 rfl (by kernel_rfl) rfl (blk_put (blk_put (blk_ne B3.out (by omega)) 0 (.int .i64 0) rfl) 1 (.int .i64 ln) rfl) hu48 rfl (by kernel_rfl)) rfl ?_
    exact ⟨_, rfl, Kd.S_nil _ _ _ _ _, (((below_drew HBC.out).setCell (by simp) _).setCell (by simp) _).setCell (by simp) _⟩
   ·
    have c6 : cd ≠ 0 := c5
    have hE := HE.out
    rw [if_neg c4] at hE
    obtain ⟨rfl, rfl, rfl⟩ : [] = r1 ∧ cd = r2 ∧ ln = r3 := by simpa using hE
    clear hE HE
    have p0 : (cd == 0) = false := beq_eq_false_iff_ne.mpr c6
    have p1 : (cd != 0) = true := bne_iff_ne.mpr c6
    have p2 : decide (cd = 0) = false := decide_eq_false c6
    have p3 : (cd = 0) = False := eq_false c6
    clear c4 c6
    have NG2 : Aside0 (g ≠ w.heap.size) := ⟨by have h_ := HG.out; have h2_ := blk_lt2.out; have h3_ := HGG.out; omega⟩
    have N32 : Aside0 (w.heap.size + 1 ≠ w.heap.size) := ⟨by omega⟩
    go_upto_region 8 with fail
    refine start_ (n := 7) (S := fun w' => w'.cell? ⟨g, 1, none⟩ = some (.int .i64 cd) ∧ w'.cell? ⟨g, 2, none⟩ = some (.int .i64 ln)) (ds := [6]) #[false, false, false, false, false, false, false] (by kernel_rfl) rfl rfl ⟨g1, g2⟩ (fun hHeld => ?_)
    refine pure_ (i := 0) (N := some 37) (v := ?_) (a' := ?_) #[true, false, false, false, false, false, false] rfl rfl (by kernel_rfl) (fun _ _ _ h => h) (Or.inl ⟨by rfl, ?_⟩) ?_ ?_
    rotate_left
    ·
     intro w'
     go_simp
     with_reducible rfl
    rotate_left
    ·
     simp only [Act.put, sA_, sZ_, sS_, i64_w, i32_w]
     rfl
    refine pure_ (i := 1) (N := some 38) (v := ?_) (a' := ?_) #[true, true, false, false, false, false, false] rfl rfl (by kernel_rfl) (fun _ _ _ h => h) (Or.inl ⟨by rfl, ?_⟩) ?_ ?_
    rotate_left
    ·
     intro w'
     go_simp
     with_reducible rfl
    rotate_left
    ·
     simp only [Act.put, sA_, sZ_, sS_, i64_w, i32_w]
     rfl
    refine pure_ (i := 2) (N := some 39) (v := ?_) (a' := ?_) #[true, true, true, false, false, false, false] rfl rfl (by kernel_rfl) (fun _ _ _ h => h) (Or.inl ⟨by rfl, ?_⟩) ?_ ?_
    rotate_left
    ·
     intro w'
     go_simp
     with_reducible rfl
    rotate_left
    ·
     simp only [Act.put, sA_, sZ_, sS_, i64_w, i32_w]
     rfl
    refine pure_ (i := 3) (N := some 40) (v := ?_) (a' := ?_) #[true, true, true, true, false, false, false] rfl rfl (by kernel_rfl) (fun _ _ _ h => h) (Or.inl ⟨by rfl, ?_⟩) ?_ ?_
    rotate_left
    ·
     intro w'
     go_simp
     with_reducible rfl
    rotate_left
    ·
     simp only [Act.put, sA_, sZ_, sS_, i64_w, i32_w]
     rfl
    refine take_ (i := 4) (N := some 41) (v := ?_) (a' := ?_) #[true, true, true, true, true, false, false] rfl rfl (by kernel_rfl) (fun _ _ _ h => h) (Or.inl ⟨by rfl, ?_⟩) hHeld ?_ ?_
    rotate_left
    ·
     rintro w' ⟨s0, s1⟩
     go_simp
     with_reducible rfl
    rotate_left
    ·
     simp only [Act.put, sA_, sZ_, sS_, i64_w, i32_w]
     rfl
    refine one_ (i := 5) (N := none) #[true, true, true, true, true, true, false] rfl rfl (by kernel_rfl) (by decide) (fun K hK => ?_)
    have fa_ := blk_frozen B2.out 0
    have ia_ := xC_ B2.out 0
    refine skip_ (w1 := ?_) (by rfl) rfl ?_ ?_
    rotate_left
    ·
     go_simp
     rfl
    refine hK.out _ _ ⟨((Lib.cell_of_heap (blk_ne BG.out NG2.out) 1).trans rfl), ((Lib.cell_of_heap (blk_ne BG.out NG2.out) 2).trans rfl)⟩ (fun hHeld => ?_)
    clear hK K
    refine last_ (i := 6) (N := none) #[true, true, true, true, true, true, true] rfl rfl (by kernel_rfl) (by decide) (fun K hK => ?_)
    have hB3' := blk_ne (u := .slice none 0 0) (i := 0) B3.out N32.out
    have fb0_ := blk_frozen hB3' 0
    have fb1_ := blk_frozen hB3' 1
    have ib0_ := (blk_cell hB3' 0).trans rfl
    have ib1_ := (blk_cell hB3' 1).trans rfl
    refine skip_ (w1 := ?_) (by rfl) rfl ?_ ?_
    rotate_left
    ·
     go_simp
     rfl
    refine hK.out _ _ ?_
    clear hK K
    refine done_ (by kernel_rfl) ?_
    go_wp2
    (try simp only [Exit.inBlock, Exit.then])
    refine bodyPost_ret (results_cc rfl _ _ w.heap.size 24 #[.slice none 0 0] (0, 0) _ (w.heap.size + 1) 79 #[.int .i64 cd, .int .i64 ln] (0, 0) _ rfl (blk_ne (blk_ne (blk_put B2.out 0 (.slice none 0 0) rfl) (by omega)) (by omega)) hu24 rfl (by kernel_rfl) rfl (blk_put (blk_put (blk_ne B3.out (by omega)) 0 (.int .i64 cd) rfl) 1 (.int .i64 ln) rfl) hu48 rfl (by kernel_rfl)) rfl ?_
    exact ⟨_, rfl, Kd.S_nil _ _ _ _ _, (((below_drew HBC.out).setCell (by simp) _).setCell (by simp) _).setCell (by simp) _⟩

end Go.Proofs.YtlncpbnadlpihaaGreatDoor.PAll
