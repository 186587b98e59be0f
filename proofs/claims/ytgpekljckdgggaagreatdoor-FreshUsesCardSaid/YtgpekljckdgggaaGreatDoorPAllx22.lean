import Derived.Test.YtgpekljckdgggaaGreatDoorPAllx0
import Derived.Test.YtgpekljckdgggaaGreatDoorPAllx17
import Derived.Test.YtgpekljckdgggaaGreatDoorPAllx19
import Derived.Test.YtgpekljckdgggaaGreatDoorPAllx20
import Derived.Test.YtgpekljckdgggaaGreatDoorPAllx21
namespace Go.Proofs.YtgpekljckdgggaaGreatDoor.PAll
open Go.RowKit Go.Proofs.YtgpekljckdgggaaGreatDoorW.PrintWords Go.Proofs.YtgpekljckdgggaaGreatDoorW.PrintLast Go.Proofs.YtgpekljckdgggaaGreatDoorW.PrintMore
attribute [local go_sem] max2_int min2_int max_two min_two max_three min_three max_four min_four   -- for this text's walks alone
set_option linter.unusedVariables false
set_option linter.unusedSimpArgs false

/-! ### pantryref12_Use: function 22 -/
mutual
def pantryref12_Use.j0 : Nat → List (S70) → Int → Int → Int → Bool → ByteArray → Int → Int → Int → Bool → Bool → List ByteArray → Bool → Bool → Bool → Bool → Bool → Bool → Int → Int → Int → Int → Option (Int)
 | 0, _, _, _, _, _, _, _, _, _, _, _, _, _, _, _, _, _, _, _, _, _, _ => none
 | k + 1, x2, x3, x4, x5, x14, x408000, x408001, x408002, x408003, x408004, x408005, x408006, x419000, x419001, x419002, x419003, x419004, x419005, x419006, x419007, x419008, x419009 => if x14 = true then ((pantryref04_Of.f k x2).bind fun bt419 => ((pantryref12_Age.f k x2 x3 x4 x5).bind fun t429 => ((pantryref12_Life.f k x408000 x408001 x408002 x408003 x408004 x408005 x408006 x2 x4).bind fun t430 => ((pantryref12_may.f k x419000 x419001 x419002 x419003 x419004 x419005 x419006 x419007 x419008 x419009 bt419.1 bt419.2.1 bt419.2.2.1 bt419.2.2.2.1 bt419.2.2.2.2.1 bt419.2.2.2.2.2.1 bt419.2.2.2.2.2.2.1 bt419.2.2.2.2.2.2.2.1 bt419.2.2.2.2.2.2.2.2.1 bt419.2.2.2.2.2.2.2.2.2 t429 t430).bind fun t431 => (pantryref12_Use.j1 k t431 x419000 x419001 x419002 x419003 x419004 x419005 x419006 x419007 x419008 x419009))))) else (pantryref12_Use.j1 k false x419000 x419001 x419002 x419003 x419004 x419005 x419006 x419007 x419008 x419009)
def pantryref12_Use.j1 : Nat → Bool → Bool → Bool → Bool → Bool → Bool → Bool → Int → Int → Int → Int → Option (Int)
 | 0, _, _, _, _, _, _, _, _, _, _, _ => none
 | k + 1, x54, x419000, x419001, x419002, x419003, x419004, x419005, x419006, x419007, x419008, x419009 => if x54 = true then (some 0) else (if x419005 = true then (some 2) else (some 1))
end
def pantryref12_Use.f (k : Nat) (a0_0 : ByteArray) (a0_1 : Int) (a0_2 : Int) (a0_3 : Int) (a0_4 : Bool) (a0_5 : Bool) (l0_6 : List ByteArray) (l1 : List (S70)) (l2 : List (S70)) (a3 : Int) (a4 : Int) (a5 : Int) : Option (Int) := (pantryref04_Of.f k l1).bind fun bt408 => (if a3 ≥ 0 then (if a4 ≥ 0 then (if a5 ≥ 0 then (if a3 ≤ 253402300799 then (if a4 ≤ 253402300799 then (pantryref12_Use.j0 k l2 a3 a4 a5 (decide (a5 ≤ 253402300799)) a0_0 a0_1 a0_2 a0_3 a0_4 a0_5 l0_6 bt408.1 bt408.2.1 bt408.2.2.1 bt408.2.2.2.1 bt408.2.2.2.2.1 bt408.2.2.2.2.2.1 bt408.2.2.2.2.2.2.1 bt408.2.2.2.2.2.2.2.1 bt408.2.2.2.2.2.2.2.2.1 bt408.2.2.2.2.2.2.2.2.2) else (pantryref12_Use.j0 k l2 a3 a4 a5 false a0_0 a0_1 a0_2 a0_3 a0_4 a0_5 l0_6 bt408.1 bt408.2.1 bt408.2.2.1 bt408.2.2.2.1 bt408.2.2.2.2.1 bt408.2.2.2.2.2.1 bt408.2.2.2.2.2.2.1 bt408.2.2.2.2.2.2.2.1 bt408.2.2.2.2.2.2.2.2.1 bt408.2.2.2.2.2.2.2.2.2)) else (pantryref12_Use.j0 k l2 a3 a4 a5 false a0_0 a0_1 a0_2 a0_3 a0_4 a0_5 l0_6 bt408.1 bt408.2.1 bt408.2.2.1 bt408.2.2.2.1 bt408.2.2.2.2.1 bt408.2.2.2.2.2.1 bt408.2.2.2.2.2.2.1 bt408.2.2.2.2.2.2.2.1 bt408.2.2.2.2.2.2.2.2.1 bt408.2.2.2.2.2.2.2.2.2)) else (pantryref12_Use.j0 k l2 a3 a4 a5 false a0_0 a0_1 a0_2 a0_3 a0_4 a0_5 l0_6 bt408.1 bt408.2.1 bt408.2.2.1 bt408.2.2.2.1 bt408.2.2.2.2.1 bt408.2.2.2.2.2.1 bt408.2.2.2.2.2.2.1 bt408.2.2.2.2.2.2.2.1 bt408.2.2.2.2.2.2.2.2.1 bt408.2.2.2.2.2.2.2.2.2)) else (pantryref12_Use.j0 k l2 a3 a4 a5 false a0_0 a0_1 a0_2 a0_3 a0_4 a0_5 l0_6 bt408.1 bt408.2.1 bt408.2.2.1 bt408.2.2.2.1 bt408.2.2.2.2.1 bt408.2.2.2.2.2.1 bt408.2.2.2.2.2.2.1 bt408.2.2.2.2.2.2.2.1 bt408.2.2.2.2.2.2.2.2.1 bt408.2.2.2.2.2.2.2.2.2)) else (pantryref12_Use.j0 k l2 a3 a4 a5 false a0_0 a0_1 a0_2 a0_3 a0_4 a0_5 l0_6 bt408.1 bt408.2.1 bt408.2.2.1 bt408.2.2.2.1 bt408.2.2.2.2.1 bt408.2.2.2.2.2.1 bt408.2.2.2.2.2.2.1 bt408.2.2.2.2.2.2.2.1 bt408.2.2.2.2.2.2.2.2.1 bt408.2.2.2.2.2.2.2.2.2))
theorem pantryref12_Use.mono_l : ∀ k, (∀ y0 y1 y2 y3 y4 y5 y6 y7 y8 y9 y10 y11 y12 y13 y14 y15 y16 y17 y18 y19 y20 y21, LeO (pantryref12_Use.j0 k y0 y1 y2 y3 y4 y5 y6 y7 y8 y9 y10 y11 y12 y13 y14 y15 y16 y17 y18 y19 y20 y21) (pantryref12_Use.j0 (k + 1) y0 y1 y2 y3 y4 y5 y6 y7 y8 y9 y10 y11 y12 y13 y14 y15 y16 y17 y18 y19 y20 y21)) ∧ (∀ y0 y1 y2 y3 y4 y5 y6 y7 y8 y9 y10, LeO (pantryref12_Use.j1 k y0 y1 y2 y3 y4 y5 y6 y7 y8 y9 y10) (pantryref12_Use.j1 (k + 1) y0 y1 y2 y3 y4 y5 y6 y7 y8 y9 y10))
 | 0 => ⟨fun _ _ _ _ _ _ _ _ _ _ _ _ _ _ _ _ _ _ _ _ _ _ r h => by simp [pantryref12_Use.j0] at h, fun _ _ _ _ _ _ _ _ _ _ _ r h => by simp [pantryref12_Use.j1] at h⟩
 | k + 1 => by
  obtain ⟨ih0, ih1⟩ := pantryref12_Use.mono_l k
  refine ⟨?_, ?_⟩
  ·
   intro y0 y1 y2 y3 y4 y5 y6 y7 y8 y9 y10 y11 y12 y13 y14 y15 y16 y17 y18 y19 y20 y21
   unfold pantryref12_Use.j0
   repeat' (with_reducible first | exact ih0 _ _ _ _ _ _ _ _ _ _ _ _ _ _ _ _ _ _ _ _ _ _ | exact ih1 _ _ _ _ _ _ _ _ _ _ _ | exact pantryref04_Of.mono _ _ | exact pantryref12_Age.mono _ _ _ _ _ | exact pantryref12_Life.mono _ _ _ _ _ _ _ _ _ _ | exact pantryref12_may.mono _ _ _ _ _ _ _ _ _ _ _ _ _ _ _ _ _ _ _ _ _ _ _ | exact lR_ | refine LeO.ite ?_ ?_ | refine LeO.bind ?_ (fun _ => ?_))
  ·
   intro y0 y1 y2 y3 y4 y5 y6 y7 y8 y9 y10
   unfold pantryref12_Use.j1
   repeat' (with_reducible first | exact ih0 _ _ _ _ _ _ _ _ _ _ _ _ _ _ _ _ _ _ _ _ _ _ | exact ih1 _ _ _ _ _ _ _ _ _ _ _ | exact pantryref04_Of.mono _ _ | exact pantryref12_Age.mono _ _ _ _ _ | exact pantryref12_Life.mono _ _ _ _ _ _ _ _ _ _ | exact pantryref12_may.mono _ _ _ _ _ _ _ _ _ _ _ _ _ _ _ _ _ _ _ _ _ _ _ | exact lR_ | refine LeO.ite ?_ ?_ | refine LeO.bind ?_ (fun _ => ?_))
theorem pantryref12_Use.mono : ∀ a0 a1 a2 a3 a4 a5 a6 a7 a8 a9 a10 a11 k, LeO (pantryref12_Use.f k a0 a1 a2 a3 a4 a5 a6 a7 a8 a9 a10 a11) (pantryref12_Use.f (k + 1) a0 a1 a2 a3 a4 a5 a6 a7 a8 a9 a10 a11) := by
 intro a0 a1 a2 a3 a4 a5 a6 a7 a8 a9 a10 a11 k
 obtain ⟨ih0, ih1⟩ := pantryref12_Use.mono_l k
 unfold pantryref12_Use.f
 repeat' (with_reducible first | exact ih0 _ _ _ _ _ _ _ _ _ _ _ _ _ _ _ _ _ _ _ _ _ _ | exact ih1 _ _ _ _ _ _ _ _ _ _ _ | exact pantryref04_Of.mono _ _ | exact pantryref12_Age.mono _ _ _ _ _ | exact pantryref12_Life.mono _ _ _ _ _ _ _ _ _ _ | exact pantryref12_may.mono _ _ _ _ _ _ _ _ _ _ _ _ _ _ _ _ _ _ _ _ _ _ _ | exact lR_ | refine LeO.ite ?_ ?_ | refine LeO.bind ?_ (fun _ => ?_))
def pantryref12_Use.T3 : Bool × List (List Nat × List Nat) := (true, [([], []), ([0], [0]), ([1], [1]), ([1], [1]), ([3, 1, 1], [1, 3]), ([1], [1]), ([1], [1]), ([1], [1]), ([1], [1]), ([5, 6, 7, 8, 4, 1], [1, 5, 6, 7, 8]), ([1], [1]), ([1], [1]), ([1], [1]), ([10, 11, 12, 9, 1], [1, 10, 11, 12]), ([2, 4, 9, 13, 13, 1], [1, 2, 4, 9, 13]), ([1, 14], [1, 14])])
def pantryref12_Use.B3 : List Nat := [0, 1, 3, 3, 11, 3, 3, 3, 3, 507, 3, 3, 3, 8187, 16383, 32767]
theorem pantryref12_Use.tab3 : rtab .any (opsOf Tryz.f22 3) = pantryref12_Use.T3 := by kernel_rfl
theorem pantryref12_Use.bits3 : waitsOk pantryref12_Use.T3.2 pantryref12_Use.B3 = true := by kernel_rfl
set_option maxHeartbeats 8000000 in
set_option maxRecDepth 100000 in
theorem pantryref12_Use.calls (k : Nat) (a0_0 : ByteArray) (a0_1 : Int) (a0_2 : Int) (a0_3 : Int) (a0_4 : Bool) (a0_5 : Bool) (A0_6 : Option Addr) (c0_6 : Nat) (l0_6 : List ByteArray) (A1 : Option Addr) (c1 : Nat) (l1 : List (S70)) (A2 : Option Addr) (c2 : Nat) (l2 : List (S70)) (a3 : Int) (a4 : Int) (a5 : Int) (r : Int) (w : World) (hr0_6 : Kd.C Kd.string w A0_6 l0_6.length l0_6) (hc0_6 : l0_6.length ≤ c0_6) (hr1 : Kd.C k70 w A1 l1.length l1) (hc1 : l1.length ≤ c1) (hr2 : Kd.C k70 w A2 l2.length l2) (hc2 : l2.length ≤ c2) (h : pantryref12_Use.f k a0_0 a0_1 a0_2 a0_3 a0_4 a0_5 l0_6 l1 l2 a3 a4 a5 = some r) :
  Calls Tryz.prog 22 #[.agg #[.string a0_0, .int .i64 a0_1, .int .i64 a0_2, .int .i64 a0_3, .bool a0_4, .bool a0_5, .slice A0_6 l0_6.length c0_6], .slice A1 l1.length c1, .slice A2 l2.length c2, .int .i64 a3, .int .i64 a4, .int .i64 a5] w fun e w' => e = .returned (.int .i64 r) ∧ Below w.heap.size w w' := by
 have hu32 := Tryz.underlying32
 have hu64 := Tryz.underlying64
 have HR0_6 := Aside0.mk hr0_6
 have HC0_6 := Aside0.mk hc0_6
 clear hr0_6 hc0_6
 have HR1 := Aside0.mk hr1
 have HC1 := Aside0.mk hc1
 clear hr1 hc1
 have HR2 := Aside0.mk hr2
 have HC2 := Aside0.mk hc2
 clear hr2 hc2
 have HB := Aside0.mk (Below.refl w.heap.size w)
 have H : ((pantryref04_Of.f k l1).bind fun bt408 => (if a3 ≥ 0 then (if a4 ≥ 0 then (if a5 ≥ 0 then (if a3 ≤ 253402300799 then (if a4 ≤ 253402300799 then (pantryref12_Use.j0 k l2 a3 a4 a5 (decide (a5 ≤ 253402300799)) a0_0 a0_1 a0_2 a0_3 a0_4 a0_5 l0_6 bt408.1 bt408.2.1 bt408.2.2.1 bt408.2.2.2.1 bt408.2.2.2.2.1 bt408.2.2.2.2.2.1 bt408.2.2.2.2.2.2.1 bt408.2.2.2.2.2.2.2.1 bt408.2.2.2.2.2.2.2.2.1 bt408.2.2.2.2.2.2.2.2.2) else (pantryref12_Use.j0 k l2 a3 a4 a5 false a0_0 a0_1 a0_2 a0_3 a0_4 a0_5 l0_6 bt408.1 bt408.2.1 bt408.2.2.1 bt408.2.2.2.1 bt408.2.2.2.2.1 bt408.2.2.2.2.2.1 bt408.2.2.2.2.2.2.1 bt408.2.2.2.2.2.2.2.1 bt408.2.2.2.2.2.2.2.2.1 bt408.2.2.2.2.2.2.2.2.2)) else (pantryref12_Use.j0 k l2 a3 a4 a5 false a0_0 a0_1 a0_2 a0_3 a0_4 a0_5 l0_6 bt408.1 bt408.2.1 bt408.2.2.1 bt408.2.2.2.1 bt408.2.2.2.2.1 bt408.2.2.2.2.2.1 bt408.2.2.2.2.2.2.1 bt408.2.2.2.2.2.2.2.1 bt408.2.2.2.2.2.2.2.2.1 bt408.2.2.2.2.2.2.2.2.2)) else (pantryref12_Use.j0 k l2 a3 a4 a5 false a0_0 a0_1 a0_2 a0_3 a0_4 a0_5 l0_6 bt408.1 bt408.2.1 bt408.2.2.1 bt408.2.2.2.1 bt408.2.2.2.2.1 bt408.2.2.2.2.2.1 bt408.2.2.2.2.2.2.1 bt408.2.2.2.2.2.2.2.1 bt408.2.2.2.2.2.2.2.2.1 bt408.2.2.2.2.2.2.2.2.2)) else (pantryref12_Use.j0 k l2 a3 a4 a5 false a0_0 a0_1 a0_2 a0_3 a0_4 a0_5 l0_6 bt408.1 bt408.2.1 bt408.2.2.1 bt408.2.2.2.1 bt408.2.2.2.2.1 bt408.2.2.2.2.2.1 bt408.2.2.2.2.2.2.1 bt408.2.2.2.2.2.2.2.1 bt408.2.2.2.2.2.2.2.2.1 bt408.2.2.2.2.2.2.2.2.2)) else (pantryref12_Use.j0 k l2 a3 a4 a5 false a0_0 a0_1 a0_2 a0_3 a0_4 a0_5 l0_6 bt408.1 bt408.2.1 bt408.2.2.1 bt408.2.2.2.1 bt408.2.2.2.2.1 bt408.2.2.2.2.2.1 bt408.2.2.2.2.2.2.1 bt408.2.2.2.2.2.2.2.1 bt408.2.2.2.2.2.2.2.2.1 bt408.2.2.2.2.2.2.2.2.2))) = some r := h
 clear h
 obtain ⟨⟨t408, t409, t410, t411, t412, t413, t414, t415, t416, t417⟩, A7, H⟩ := bS_ H
 try dsimp only at H
 have HC8 := Aside0.mk H
 clear H
 go_enter Tryz.func22, Tryz.ntmps22
 go_upto_region 2 with (first | ((with_reducible refine gate_dst (N := 6) rfl ?_); refine box_event ?hg (N := 6) ?hd (cs := #[.string a0_0, .int .i64 a0_1, .int .i64 a0_2, .int .i64 a0_3, .bool a0_4, .bool a0_5, .slice A0_6 l0_6.length c0_6]) (t := 32) ?hr ?_; (case hd | hg => rfl); (case hr => exact S1_); intro gb407 hg w9 hbox hb; have BK407 := Aside0.mk (hbox); have GW407 := Aside0.mk ((Z1_ : w.heap.size ≤ gb407)); have GE407 := Aside0.mk ((Z1_ : w.heap.size ≤ gb407)); replace HB := y1_ hb; clear hb hbox hg) | ((with_reducible refine gate_callee (f := 31) rfl ?_); refine goesL_ (some 16) rfl rfl Tryz.func31 (by kernel_rfl) rfl #[.slice A1 l1.length c1] rfl T1_ ?_; (with_reducible refine (pantryref04_Of.calls k _ _ l1 t408 t409 t410 t411 t412 t413 t414 t415 t416 t417 _ ?side1 ?side2 A7.out).mono ?_); (case side1 => exact C1_ ((Kd.C_below HR1.out HB.out))); (case side2 => exact HC1.out); rintro e w10 ⟨rfl, hb⟩; refine ⟨_, rfl, ?_⟩; replace BK407 := yB_ BK407 hb; replace HB := y2_ hb; (try clear hb)) | ((with_reducible refine gate_dst (N := 13) rfl ?_); refine box_event ?hg (N := 13) ?hd (cs := #[.bool false, .bool false, .bool false, .bool false, .bool false, .bool false, .int .i64 0, .int .i64 0, .int .i64 0, .int .i64 0]) (t := 64) ?hr ?_; (case hd | hg => rfl); (case hr => exact S1_); intro gb418 hg w11 hbox hb; have BK418 := Aside0.mk (hbox); have GW418 := Aside0.mk ((Z2_ : w.heap.size ≤ gb418)); have GE418 := Aside0.mk ((Z2_ : w.heap.size ≤ gb418)); have NB407_418 := Aside0.mk ((by rw [hg]; exact Nat.ne_of_lt (blk_lt (B1_ BK407.out)) : gb407 ≠ gb418)); have NB418_407 := Aside0.mk ((by rw [hg]; exact Nat.ne_of_gt (blk_lt (B1_ BK407.out)) : gb418 ≠ gb407)); replace BK407 := yB_ BK407 hb; replace HB := y2_ hb; clear hb hbox hg; have hnb12 := NB418_407.out; have hnc12 := NB407_418.out; obtain ⟨z13_0, z13_1, z13_2, z13_3, z13_4, z13_5, z13_6, z13_7, z13_8, z13_9, y13_0, y13_1, y13_2, y13_3, y13_4, y13_5, y13_6, y13_7, y13_8, y13_9⟩ := cz10_ BK418.out))
 (try simp only [Act.put, sA_, sZ_, sS_])
 go_cut [14] (fun v14 wc => ∃ (kq : Nat) (x14_7 : Bool), v14 = .bool x14_7 ∧ Aside0 (pantryref12_Use.j0 kq l2 a3 a4 a5 x14_7 a0_0 a0_1 a0_2 a0_3 a0_4 a0_5 l0_6 t408 t409 t410 t411 t412 t413 t414 t415 t416 t417 = some r) ∧ Aside0 (kq ≤ k) ∧ Aside0 (wc.heap[gb407]? = some (.cells #[.string a0_0, .int .i64 a0_1, .int .i64 a0_2, .int .i64 a0_3, .bool a0_4, .bool a0_5, (.slice A0_6 l0_6.length c0_6)] 32 (0, 0))) ∧ Aside0 (wc.heap[gb418]? = some (.cells #[.bool t408, .bool t409, .bool t410, .bool t411, .bool t412, .bool t413, .int .i64 t414, .int .i64 t415, .int .i64 t416, .int .i64 t417] 64 (0, 0))) ∧ Aside0 (Below w.heap.size w wc))
 case first =>
  have H := HC8.out
  clear HC8
  by_cases c14 : a3 ≥ 0
  ·
   rw [if_pos c14] at H
   have c14b0 : decide (0 ≤ a3) = true := decide_eq_true c14
   clear c14
   (first | rw [c14b0] | (simp only [i64_w, i32_w]; rw [c14b0]) | skip)
   by_cases c15 : a4 ≥ 0
   ·
    rw [if_pos c15] at H
    have c15b0 : decide (0 ≤ a4) = true := decide_eq_true c15
    clear c15
    by_cases c16 : a5 ≥ 0
    ·
     rw [if_pos c16] at H
     have c16b0 : decide (0 ≤ a5) = true := decide_eq_true c16
     clear c16
     by_cases c17 : a3 ≤ 253402300799
     ·
      rw [if_pos c17] at H
      have c17b0 : decide (a3 ≤ 253402300799) = true := decide_eq_true c17
      clear c17
      by_cases c18 : a4 ≤ 253402300799
      ·
       rw [if_pos c18] at H
       have c18b0 : decide (a4 ≤ 253402300799) = true := decide_eq_true c18
       clear c18
       have H' := Aside0.mk H
       clear H
       go_wp2
       go_meet
       case rel => exact ⟨_, (decide (a5 ≤ 253402300799)), E3_, H', ⟨by first | omega | exact Nat.le_refl _⟩, ⟨G1_ BK407.out⟩, ⟨G1_ BK418.out⟩, ⟨W2_⟩⟩
      ·
       rw [if_neg c18] at H
       have c18b0 : decide (a4 ≤ 253402300799) = false := decide_eq_false c18
       clear c18
       have H' := Aside0.mk H
       clear H
       go_wp2
       go_meet
       case rel => exact ⟨_, (false), E3_, H', ⟨by first | omega | exact Nat.le_refl _⟩, ⟨G1_ BK407.out⟩, ⟨G1_ BK418.out⟩, ⟨W2_⟩⟩
     ·
      rw [if_neg c17] at H
      have c17b0 : decide (a3 ≤ 253402300799) = false := decide_eq_false c17
      clear c17
      have H' := Aside0.mk H
      clear H
      go_wp2
      go_meet
      case rel => exact ⟨_, (false), E3_, H', ⟨by first | omega | exact Nat.le_refl _⟩, ⟨G1_ BK407.out⟩, ⟨G1_ BK418.out⟩, ⟨W2_⟩⟩
    ·
     rw [if_neg c16] at H
     have c16b0 : decide (0 ≤ a5) = false := decide_eq_false c16
     clear c16
     have H' := Aside0.mk H
     clear H
     go_wp2
     go_meet
     case rel => exact ⟨_, (false), E3_, H', ⟨by first | omega | exact Nat.le_refl _⟩, ⟨G1_ BK407.out⟩, ⟨G1_ BK418.out⟩, ⟨W2_⟩⟩
   ·
    rw [if_neg c15] at H
    have c15b0 : decide (0 ≤ a4) = false := decide_eq_false c15
    clear c15
    have H' := Aside0.mk H
    clear H
    go_wp2
    go_meet
    case rel => exact ⟨_, (false), E3_, H', ⟨by first | omega | exact Nat.le_refl _⟩, ⟨G1_ BK407.out⟩, ⟨G1_ BK418.out⟩, ⟨W2_⟩⟩
  ·
   rw [if_neg c14] at H
   have c14b0 : decide (0 ≤ a3) = false := decide_eq_false c14
   clear c14
   (first | rw [c14b0] | (simp only [i64_w, i32_w]; rw [c14b0]) | skip)
   have H' := Aside0.mk H
   clear H
   go_wp2
   go_meet
   case rel => exact ⟨_, (false), E3_, H', ⟨by first | omega | exact Nat.le_refl _⟩, ⟨G1_ BK407.out⟩, ⟨G1_ BK418.out⟩, ⟨W2_⟩⟩
 case rest =>
  clear HC8
  (try clear c1); (try clear c2); (try clear c14); (try clear c14b0); (try clear c15); (try clear c15b0); (try clear c16); (try clear c16b0); (try clear c17); (try clear c17b0); (try clear c18); (try clear c18b0); (try clear z13_0 z13_1 z13_2 z13_3 z13_4 z13_5 z13_6 z13_7 z13_8 z13_9 y13_0 y13_1 y13_2 y13_3 y13_4 y13_5 y13_6 y13_7 y13_8 y13_9)
  obtain ⟨kq, x14_7, rfl, HA, HJ7, BK407, BK418, HB⟩ := hcut
  cases kq with
  | zero => exact absurd HA.out (by simp [pantryref12_Use.j0])
  | succ kj7 =>
   have H := HA.out
   clear HA
   simp only [pantryref12_Use.j0] at H
   have HC19 := Aside0.mk H
   clear H
   go_upto_region 3 with (fail)
   go_cut [54] (fun v54 wc => ∃ (kq : Nat) (x54_18 : Bool), v54 = .bool x54_18 ∧ Aside0 (pantryref12_Use.j1 kq x54_18 t408 t409 t410 t411 t412 t413 t414 t415 t416 t417 = some r) ∧ Aside0 (kq ≤ kj7) ∧ Aside0 (wc.heap[gb407]? = some (.cells #[.string a0_0, .int .i64 a0_1, .int .i64 a0_2, .int .i64 a0_3, .bool a0_4, .bool a0_5, (.slice A0_6 l0_6.length c0_6)] 32 (0, 0))) ∧ Aside0 (wc.heap[gb418]? = some (.cells #[.bool t408, .bool t409, .bool t410, .bool t411, .bool t412, .bool t413, .int .i64 t414, .int .i64 t415, .int .i64 t416, .int .i64 t417] 64 (0, 0))) ∧ Aside0 (Below w.heap.size w wc))
   case first =>
    have H := HC19.out
    clear HC19
    by_cases c20 : x14_7 = true
    ·
     subst c20
     rw [if_pos rfl] at H
     obtain ⟨⟨t419, t420, t421, t422, t423, t424, t425, t426, t427, t428⟩, A21, H⟩ := bS_ H
     try dsimp only at H
     obtain ⟨t429, A22, H⟩ := bS_ H
     try dsimp only at H
     obtain ⟨t430, A23, H⟩ := bS_ H
     try dsimp only at H
     obtain ⟨t431, A24, H⟩ := bS_ H
     try dsimp only at H
     have H' := Aside0.mk H
     clear H
     try go_wp2
     have n0_ := Aside0.mk (bD_ BK407.out)
     have n1_ := Aside0.mk (bD_ BK418.out)
     have n2_ := Aside0.mk (zD_ HB.out)
     clear BK407
     clear BK418
     clear HB
     have BK407 := n0_
     have BK418 := n1_
     have HB := n2_
     clear n0_ n1_ n2_
     refine start_ (n := 16) (S := fun w' => w'.cell? ⟨gb418, 0, none⟩ = some (.bool t408) ∧ w'.cell? ⟨gb418, 1, none⟩ = some (.bool t409) ∧ w'.cell? ⟨gb418, 2, none⟩ = some (.bool t410) ∧ w'.cell? ⟨gb418, 3, none⟩ = some (.bool t411) ∧ w'.cell? ⟨gb418, 4, none⟩ = some (.bool t412) ∧ w'.cell? ⟨gb418, 5, none⟩ = some (.bool t413) ∧ w'.cell? ⟨gb418, 6, none⟩ = some (.int .i64 t414) ∧ w'.cell? ⟨gb418, 7, none⟩ = some (.int .i64 t415) ∧ w'.cell? ⟨gb418, 8, none⟩ = some (.int .i64 t416) ∧ w'.cell? ⟨gb418, 9, none⟩ = some (.int .i64 t417) ∧ w'.cell? ⟨gb407, 0, none⟩ = some (.string a0_0) ∧ w'.cell? ⟨gb407, 1, none⟩ = some (.int .i64 a0_1) ∧ w'.cell? ⟨gb407, 2, none⟩ = some (.int .i64 a0_2) ∧ w'.cell? ⟨gb407, 3, none⟩ = some (.int .i64 a0_3) ∧ w'.cell? ⟨gb407, 4, none⟩ = some (.bool a0_4) ∧ w'.cell? ⟨gb407, 5, none⟩ = some (.bool a0_5) ∧ w'.cell? ⟨gb407, 6, none⟩ = some (.slice A0_6 l0_6.length c0_6)) (ds := []) #[false, false, false, false, false, false, false, false, false, false, false, false, false, false, false, false] (by kernel_rfl) rfl rfl ⟨xC_ BK418.out 0, xC_ BK418.out 1, xC_ BK418.out 2, xC_ BK418.out 3, xC_ BK418.out 4, xC_ BK418.out 5, xC_ BK418.out 6, xC_ BK418.out 7, xC_ BK418.out 8, xC_ BK418.out 9, xC_ BK407.out 0, xC_ BK407.out 1, xC_ BK407.out 2, xC_ BK407.out 3, xC_ BK407.out 4, xC_ BK407.out 5, xC_ BK407.out 6⟩ (fun hHeld => ?_); refine with_tabW pantryref12_Use.tab3 pantryref12_Use.bits3 (fun HT_ HW_ => ?_)
     generalize wc.drew = w25 at BK407 BK418 HB hHeld ⊢
     refine pure_ (i := 0) (N := some 39) (v := ?_) (a' := ?_) #[true, false, false, false, false, false, false, false, false, false, false, false, false, false, false, false] rfl rfl (any_of HT_.out (by kernel_rfl)) (fun _ _ _ h => h) (Or.inl ⟨by rfl, ?_⟩) ?_ ?_
     rotate_left
     ·
      intro w'
      go_simp
      with_reducible rfl
     rotate_left
     ·
      simp only [Act.put, sA_, sZ_, sS_, i64_w, i32_w]
      rfl
     refine pure_ (i := 1) (N := some 40) (v := ?_) (a' := ?_) #[true, true, false, false, false, false, false, false, false, false, false, false, false, false, false, false] rfl rfl (any_of HT_.out (by kernel_rfl)) (fun _ _ _ h => h) (Or.inl ⟨by rfl, ?_⟩) ?_ ?_
     rotate_left
     ·
      intro w'
      go_simp
      with_reducible rfl
     rotate_left
     ·
      simp only [Act.put, sA_, sZ_, sS_, i64_w, i32_w]
      rfl
     refine pure_ (i := 3) (N := some 42) (v := ?_) (a' := ?_) #[true, true, false, true, false, false, false, false, false, false, false, false, false, false, false, false] rfl rfl (any_of HT_.out (by kernel_rfl)) (fun _ _ _ h => h) (Or.inl ⟨by rfl, ?_⟩) ?_ ?_
     rotate_left
     ·
      intro w'
      go_simp
      with_reducible rfl
     rotate_left
     ·
      simp only [Act.put, sA_, sZ_, sS_, i64_w, i32_w]
      rfl
     refine pure_ (i := 5) (N := some 44) (v := ?_) (a' := ?_) #[true, true, false, true, false, true, false, false, false, false, false, false, false, false, false, false] rfl rfl (any_of HT_.out (by kernel_rfl)) (fun _ _ _ h => h) (Or.inl ⟨by rfl, ?_⟩) ?_ ?_
     rotate_left
     ·
      intro w'
      go_simp
      with_reducible rfl
     rotate_left
     ·
      simp only [Act.put, sA_, sZ_, sS_, i64_w, i32_w]
      rfl
     refine pure_ (i := 6) (N := some 45) (v := ?_) (a' := ?_) #[true, true, false, true, false, true, true, false, false, false, false, false, false, false, false, false] rfl rfl (any_of HT_.out (by kernel_rfl)) (fun _ _ _ h => h) (Or.inl ⟨by rfl, ?_⟩) ?_ ?_
     rotate_left
     ·
      intro w'
      go_simp
      with_reducible rfl
     rotate_left
     ·
      simp only [Act.put, sA_, sZ_, sS_, i64_w, i32_w]
      rfl
     refine pure_ (i := 7) (N := some 46) (v := ?_) (a' := ?_) #[true, true, false, true, false, true, true, true, false, false, false, false, false, false, false, false] rfl rfl (any_of HT_.out (by kernel_rfl)) (fun _ _ _ h => h) (Or.inl ⟨by rfl, ?_⟩) ?_ ?_
     rotate_left
     ·
      intro w'
      go_simp
      with_reducible rfl
     rotate_left
     ·
      simp only [Act.put, sA_, sZ_, sS_, i64_w, i32_w]
      rfl
     refine pure_ (i := 8) (N := some 47) (v := ?_) (a' := ?_) #[true, true, false, true, false, true, true, true, true, false, false, false, false, false, false, false] rfl rfl (any_of HT_.out (by kernel_rfl)) (fun _ _ _ h => h) (Or.inl ⟨by rfl, ?_⟩) ?_ ?_
     rotate_left
     ·
      intro w'
      go_simp
      with_reducible rfl
     rotate_left
     ·
      simp only [Act.put, sA_, sZ_, sS_, i64_w, i32_w]
      rfl
     refine pure_ (i := 11) (N := some 50) (v := ?_) (a' := ?_) #[true, true, false, true, false, true, true, true, true, false, false, true, false, false, false, false] rfl rfl (any_of HT_.out (by kernel_rfl)) (fun _ _ _ h => h) (Or.inl ⟨by rfl, ?_⟩) ?_ ?_
     rotate_left
     ·
      intro w'
      go_simp
      with_reducible rfl
     rotate_left
     ·
      simp only [Act.put, sA_, sZ_, sS_, i64_w, i32_w]
      rfl
     refine pure_ (i := 12) (N := some 51) (v := ?_) (a' := ?_) #[true, true, false, true, false, true, true, true, true, false, false, true, true, false, false, false] rfl rfl (any_of HT_.out (by kernel_rfl)) (fun _ _ _ h => h) (Or.inl ⟨by rfl, ?_⟩) ?_ ?_
     rotate_left
     ·
      intro w'
      go_simp
      with_reducible rfl
     rotate_left
     ·
      simp only [Act.put, sA_, sZ_, sS_, i64_w, i32_w]
      rfl
     refine take_ (i := 2) (N := some 41) (v := ?_) (a' := ?_) #[true, true, true, true, false, true, true, true, true, false, false, true, true, false, false, false] rfl rfl (take_ofW HT_.out HW_.out (by kernel_rfl)) (fun _ _ _ h => h) (Or.inl ⟨by rfl, ?_⟩) hHeld ?_ ?_
     rotate_left
     ·
      rintro w' ⟨s0, s1, s2, s3, s4, s5, s6, s7, s8, s9, s10, s11, s12, s13, s14, s15, s16⟩
      go_simp
      with_reducible rfl
     rotate_left
     ·
      simp only [Act.put, sA_, sZ_, sS_, i64_w, i32_w]
      rfl
     refine take_ (i := 10) (N := some 49) (v := ?_) (a' := ?_) #[true, true, true, true, false, true, true, true, true, false, true, true, true, false, false, false] rfl rfl (take_ofW HT_.out HW_.out (by kernel_rfl)) (fun _ _ _ h => h) (Or.inl ⟨by rfl, ?_⟩) hHeld ?_ ?_
     rotate_left
     ·
      rintro w' ⟨s0, s1, s2, s3, s4, s5, s6, s7, s8, s9, s10, s11, s12, s13, s14, s15, s16⟩
      go_simp
      with_reducible rfl
     rotate_left
     ·
      simp only [Act.put, sA_, sZ_, sS_, i64_w, i32_w]
      rfl
     refine one_ (i := 4) (N := some 43) #[true, true, true, true, true, true, true, true, true, false, true, true, true, false, false, false] rfl rfl (one_of HT_.out (by kernel_rfl)) (by decide) (fun K hK => ?_)
     refine goes_ Tryz.func31 (by kernel_rfl) rfl #[.slice A2 l2.length c2] (by rfl) rfl rfl T1_ ?_
     with_reducible refine (pantryref04_Of.calls kj7 _ _ l2 t419 t420 t421 t422 t423 t424 t425 t426 t427 t428 _ ?side1 ?side2 A21.out).mono ?_
     (case side1 => exact C1_ ((Kd.C_below HR2.out HB.out)))
     (case side2 => exact HC2.out)
     rintro e w26 ⟨rfl, hb⟩
     refine ⟨_, rfl, ?_⟩
     have n0_ := Aside0.mk (blk_below (B1_ BK407.out) hb)
     have n1_ := Aside0.mk (blk_below (B1_ BK418.out) hb)
     have n2_ := Aside0.mk (below_step W2_ hb)
     clear BK407
     clear BK418
     clear HB
     have BK407 := n0_
     have BK418 := n1_
     have HB := n2_
     clear n0_ n1_ n2_
     (try clear hb)
     (try clear hb2)
     (try clear hk)
     (try clear hi)
     refine hK.out _ _ ⟨xC_ BK418.out 0, xC_ BK418.out 1, xC_ BK418.out 2, xC_ BK418.out 3, xC_ BK418.out 4, xC_ BK418.out 5, xC_ BK418.out 6, xC_ BK418.out 7, xC_ BK418.out 8, xC_ BK418.out 9, xC_ BK407.out 0, xC_ BK407.out 1, xC_ BK407.out 2, xC_ BK407.out 3, xC_ BK407.out 4, xC_ BK407.out 5, xC_ BK407.out 6⟩ (fun hHeld => ?_)
     clear hK K
     refine norm_ (a' := ?_) ?_ ?_
     rotate_left
     ·
      show Act.put _ (some 43) _ = _
      simp only [Act.put, sA_, sZ_, sS_, i64_w, i32_w]
      rfl
     refine one_ (i := 9) (N := some 48) #[true, true, true, true, true, true, true, true, true, true, true, true, true, false, false, false] rfl rfl (one_of HT_.out (by kernel_rfl)) (by decide) (fun K hK => ?_)
     refine goes_ Tryz.func20 (by kernel_rfl) rfl #[.slice A2 l2.length c2, .int .i64 a3, .int .i64 a4, .int .i64 a5] (by rfl) rfl rfl T1_ ?_
     with_reducible refine (pantryref12_Age.calls kj7 _ _ l2 a3 a4 a5 t429 _ ?side1 ?side2 A22.out).mono ?_
     (case side1 => exact C1_ ((Kd.C_below HR2.out HB.out)))
     (case side2 => exact HC2.out)
     rintro e w27 ⟨rfl, hb⟩
     refine ⟨_, rfl, ?_⟩
     have n0_ := Aside0.mk (blk_below (B1_ BK407.out) hb)
     have n1_ := Aside0.mk (blk_below (B1_ BK418.out) hb)
     have n2_ := Aside0.mk (below_step W2_ hb)
     clear BK407
     clear BK418
     clear HB
     have BK407 := n0_
     have BK418 := n1_
     have HB := n2_
     clear n0_ n1_ n2_
     (try clear hb)
     (try clear hb2)
     (try clear hk)
     (try clear hi)
     refine hK.out _ _ ⟨xC_ BK418.out 0, xC_ BK418.out 1, xC_ BK418.out 2, xC_ BK418.out 3, xC_ BK418.out 4, xC_ BK418.out 5, xC_ BK418.out 6, xC_ BK418.out 7, xC_ BK418.out 8, xC_ BK418.out 9, xC_ BK407.out 0, xC_ BK407.out 1, xC_ BK407.out 2, xC_ BK407.out 3, xC_ BK407.out 4, xC_ BK407.out 5, xC_ BK407.out 6⟩ (fun hHeld => ?_)
     clear hK K
     refine norm_ (a' := ?_) ?_ ?_
     rotate_left
     ·
      show Act.put _ (some 48) _ = _
      simp only [Act.put, sA_, sZ_, sS_, i64_w, i32_w]
      rfl
     refine one_ (i := 13) (N := some 52) #[true, true, true, true, true, true, true, true, true, true, true, true, true, true, false, false] rfl rfl (one_of HT_.out (by kernel_rfl)) (by decide) (fun K hK => ?_)
     refine goes_ Tryz.func18 (by kernel_rfl) rfl #[.agg #[.string a0_0, .int .i64 a0_1, .int .i64 a0_2, .int .i64 a0_3, .bool a0_4, .bool a0_5, .slice A0_6 l0_6.length c0_6], .slice A2 l2.length c2, .int .i64 a4] (by rfl) rfl rfl T1_ ?_
     with_reducible refine (pantryref12_Life.calls kj7 a0_0 a0_1 a0_2 a0_3 a0_4 a0_5 _ _ l0_6 _ _ l2 a4 t430 _ ?side1 ?side2 ?side3 ?side4 A23.out).mono ?_
     (case side1 => exact C1_ ((Kd.C_below HR0_6.out HB.out)))
     (case side2 => exact HC0_6.out)
     (case side3 => exact C1_ ((Kd.C_below HR2.out HB.out)))
     (case side4 => exact HC2.out)
     rintro e w28 ⟨rfl, hb⟩
     refine ⟨_, rfl, ?_⟩
     have n0_ := Aside0.mk (blk_below (B1_ BK407.out) hb)
     have n1_ := Aside0.mk (blk_below (B1_ BK418.out) hb)
     have n2_ := Aside0.mk (below_step W2_ hb)
     clear BK407
     clear BK418
     clear HB
     have BK407 := n0_
     have BK418 := n1_
     have HB := n2_
     clear n0_ n1_ n2_
     (try clear hb)
     (try clear hb2)
     (try clear hk)
     (try clear hi)
     refine hK.out _ _ ⟨xC_ BK418.out 0, xC_ BK418.out 1, xC_ BK418.out 2, xC_ BK418.out 3, xC_ BK418.out 4, xC_ BK418.out 5, xC_ BK418.out 6, xC_ BK418.out 7, xC_ BK418.out 8, xC_ BK418.out 9, xC_ BK407.out 0, xC_ BK407.out 1, xC_ BK407.out 2, xC_ BK407.out 3, xC_ BK407.out 4, xC_ BK407.out 5, xC_ BK407.out 6⟩ (fun hHeld => ?_)
     clear hK K
     refine norm_ (a' := ?_) ?_ ?_
     rotate_left
     ·
      show Act.put _ (some 52) _ = _
      simp only [Act.put, sA_, sZ_, sS_, i64_w, i32_w]
      rfl
     refine one_ (i := 14) (N := some 53) #[true, true, true, true, true, true, true, true, true, true, true, true, true, true, true, false] rfl rfl (one_of HT_.out (by kernel_rfl)) (by decide) (fun K hK => ?_)
     refine goes_ Tryz.func42 (by kernel_rfl) rfl #[.agg #[.bool t408, .bool t409, .bool t410, .bool t411, .bool t412, .bool t413, .int .i64 t414, .int .i64 t415, .int .i64 t416, .int .i64 t417], .agg #[.bool t419, .bool t420, .bool t421, .bool t422, .bool t423, .bool t424, .int .i64 t425, .int .i64 t426, .int .i64 t427, .int .i64 t428], .int .i64 t429, .int .i64 t430] (by rfl) rfl rfl T1_ ?_
     with_reducible refine (pantryref12_may.calls kj7 t408 t409 t410 t411 t412 t413 t414 t415 t416 t417 t419 t420 t421 t422 t423 t424 t425 t426 t427 t428 t429 t430 t431 _ A24.out).mono ?_
     rintro e w29 ⟨rfl, hb⟩
     refine ⟨_, rfl, ?_⟩
     have n0_ := Aside0.mk (blk_below (B1_ BK407.out) hb)
     have n1_ := Aside0.mk (blk_below (B1_ BK418.out) hb)
     have n2_ := Aside0.mk (below_step W2_ hb)
     clear BK407
     clear BK418
     clear HB
     have BK407 := n0_
     have BK418 := n1_
     have HB := n2_
     clear n0_ n1_ n2_
     (try clear hb)
     (try clear hb2)
     (try clear hk)
     (try clear hi)
     refine hK.out _ _ ⟨xC_ BK418.out 0, xC_ BK418.out 1, xC_ BK418.out 2, xC_ BK418.out 3, xC_ BK418.out 4, xC_ BK418.out 5, xC_ BK418.out 6, xC_ BK418.out 7, xC_ BK418.out 8, xC_ BK418.out 9, xC_ BK407.out 0, xC_ BK407.out 1, xC_ BK407.out 2, xC_ BK407.out 3, xC_ BK407.out 4, xC_ BK407.out 5, xC_ BK407.out 6⟩ (fun hHeld => ?_)
     clear hK K
     refine norm_ (a' := ?_) ?_ ?_
     rotate_left
     ·
      show Act.put _ (some 53) _ = _
      simp only [Act.put, sA_, sZ_, sS_, i64_w, i32_w]
      rfl
     refine pure_ (i := 15) (N := some 54) (v := ?_) (a' := ?_) #[true, true, true, true, true, true, true, true, true, true, true, true, true, true, true, true] rfl rfl (any_of HT_.out (by kernel_rfl)) (fun _ _ _ h => h) (Or.inl ⟨by rfl, ?_⟩) ?_ ?_
     rotate_left
     ·
      intro w'
      go_simp
      with_reducible rfl
     rotate_left
     ·
      simp only [Act.put, sA_, sZ_, sS_, i64_w, i32_w]
      rfl
     refine done_ (done_of HT_.out (by kernel_rfl)) ?_
     try go_wp2
     go_meet
     case rel => exact ⟨_, (t431), E3_, H', ⟨by have := HJ7.out; first | omega | exact Nat.le_refl _⟩, ⟨B1_ BK407.out⟩, ⟨B1_ BK418.out⟩, ⟨W2_⟩⟩
    ·
     replace c20 := Bool.eq_false_iff.mpr c20
     subst c20
     rw [if_neg (show ¬ (false = true) by decide)] at H
     have H' := Aside0.mk H
     clear H
     try go_wp2
     have n0_ := Aside0.mk (bD_ BK407.out)
     have n1_ := Aside0.mk (bD_ BK418.out)
     have n2_ := Aside0.mk (zD_ HB.out)
     clear BK407
     clear BK418
     clear HB
     have BK407 := n0_
     have BK418 := n1_
     have HB := n2_
     clear n0_ n1_ n2_
     refine start_ (n := 16) (S := fun w' => True) (ds := []) #[false, false, false, false, false, false, false, false, false, false, false, false, false, false, false, false] (by kernel_rfl) rfl rfl trivial (fun hHeld => ?_); refine with_tabW pantryref12_Use.tab3 pantryref12_Use.bits3 (fun HT_ HW_ => ?_)
     generalize wc.drew = w30 at BK407 BK418 HB hHeld ⊢
     refine pure_ (i := 0) (N := some 39) (v := ?_) (a' := ?_) #[true, false, false, false, false, false, false, false, false, false, false, false, false, false, false, false] rfl rfl (any_of HT_.out (by kernel_rfl)) (fun _ _ _ h => h) (Or.inl ⟨by rfl, ?_⟩) ?_ ?_
     rotate_left
     ·
      intro w'
      go_simp
      with_reducible rfl
     rotate_left
     ·
      simp only [Act.put, sA_, sZ_, sS_, i64_w, i32_w]
      rfl
     refine pure_ (i := 1) (N := some 40) (v := ?_) (a' := ?_) #[true, true, false, false, false, false, false, false, false, false, false, false, false, false, false, false] rfl rfl (any_of HT_.out (by kernel_rfl)) (fun _ _ _ h => h) (Or.inl ⟨by rfl, ?_⟩) ?_ ?_
     rotate_left
     ·
      intro w'
      go_simp
      with_reducible rfl
     rotate_left
     ·
      simp only [Act.put, sA_, sZ_, sS_, i64_w, i32_w]
      rfl
     refine pure_ (i := 2) (N := some 41) (v := undef) (a' := ?_) #[true, true, true, false, false, false, false, false, false, false, false, false, false, false, false, false] rfl rfl (any_of HT_.out (by kernel_rfl)) (fun _ _ _ h => h) (Or.inr ⟨by rfl, rfl⟩) ?_ ?_
     rotate_left
     ·
      simp only [Act.put, sA_, sZ_, sS_, i64_w, i32_w]
      rfl
     refine pure_ (i := 3) (N := some 42) (v := undef) (a' := ?_) #[true, true, true, true, false, false, false, false, false, false, false, false, false, false, false, false] rfl rfl (any_of HT_.out (by kernel_rfl)) (fun _ _ _ h => h) (Or.inr ⟨by rfl, rfl⟩) ?_ ?_
     rotate_left
     ·
      simp only [Act.put, sA_, sZ_, sS_, i64_w, i32_w]
      rfl
     refine pure_ (i := 4) (N := some 43) (v := undef) (a' := ?_) #[true, true, true, true, true, false, false, false, false, false, false, false, false, false, false, false] rfl rfl (any_of HT_.out (by kernel_rfl)) (fun _ _ _ h => h) (Or.inr ⟨by rfl, rfl⟩) ?_ ?_
     rotate_left
     ·
      simp only [Act.put, sA_, sZ_, sS_, i64_w, i32_w]
      rfl
     refine pure_ (i := 5) (N := some 44) (v := undef) (a' := ?_) #[true, true, true, true, true, true, false, false, false, false, false, false, false, false, false, false] rfl rfl (any_of HT_.out (by kernel_rfl)) (fun _ _ _ h => h) (Or.inr ⟨by rfl, rfl⟩) ?_ ?_
     rotate_left
     ·
      simp only [Act.put, sA_, sZ_, sS_, i64_w, i32_w]
      rfl
     refine pure_ (i := 6) (N := some 45) (v := undef) (a' := ?_) #[true, true, true, true, true, true, true, false, false, false, false, false, false, false, false, false] rfl rfl (any_of HT_.out (by kernel_rfl)) (fun _ _ _ h => h) (Or.inr ⟨by rfl, rfl⟩) ?_ ?_
     rotate_left
     ·
      simp only [Act.put, sA_, sZ_, sS_, i64_w, i32_w]
      rfl
     refine pure_ (i := 7) (N := some 46) (v := undef) (a' := ?_) #[true, true, true, true, true, true, true, true, false, false, false, false, false, false, false, false] rfl rfl (any_of HT_.out (by kernel_rfl)) (fun _ _ _ h => h) (Or.inr ⟨by rfl, rfl⟩) ?_ ?_
     rotate_left
     ·
      simp only [Act.put, sA_, sZ_, sS_, i64_w, i32_w]
      rfl
     refine pure_ (i := 8) (N := some 47) (v := undef) (a' := ?_) #[true, true, true, true, true, true, true, true, true, false, false, false, false, false, false, false] rfl rfl (any_of HT_.out (by kernel_rfl)) (fun _ _ _ h => h) (Or.inr ⟨by rfl, rfl⟩) ?_ ?_
     rotate_left
     ·
      simp only [Act.put, sA_, sZ_, sS_, i64_w, i32_w]
      rfl
     refine pure_ (i := 9) (N := some 48) (v := undef) (a' := ?_) #[true, true, true, true, true, true, true, true, true, true, false, false, false, false, false, false] rfl rfl (any_of HT_.out (by kernel_rfl)) (fun _ _ _ h => h) (Or.inr ⟨by rfl, rfl⟩) ?_ ?_
     rotate_left
     ·
      simp only [Act.put, sA_, sZ_, sS_, i64_w, i32_w]
      rfl
     refine pure_ (i := 10) (N := some 49) (v := undef) (a' := ?_) #[true, true, true, true, true, true, true, true, true, true, true, false, false, false, false, false] rfl rfl (any_of HT_.out (by kernel_rfl)) (fun _ _ _ h => h) (Or.inr ⟨by rfl, rfl⟩) ?_ ?_
     rotate_left
     ·
      simp only [Act.put, sA_, sZ_, sS_, i64_w, i32_w]
      rfl
     refine pure_ (i := 11) (N := some 50) (v := undef) (a' := ?_) #[true, true, true, true, true, true, true, true, true, true, true, true, false, false, false, false] rfl rfl (any_of HT_.out (by kernel_rfl)) (fun _ _ _ h => h) (Or.inr ⟨by rfl, rfl⟩) ?_ ?_
     rotate_left
     ·
      simp only [Act.put, sA_, sZ_, sS_, i64_w, i32_w]
      rfl
     refine pure_ (i := 12) (N := some 51) (v := undef) (a' := ?_) #[true, true, true, true, true, true, true, true, true, true, true, true, true, false, false, false] rfl rfl (any_of HT_.out (by kernel_rfl)) (fun _ _ _ h => h) (Or.inr ⟨by rfl, rfl⟩) ?_ ?_
     rotate_left
     ·
      simp only [Act.put, sA_, sZ_, sS_, i64_w, i32_w]
      rfl
     refine pure_ (i := 13) (N := some 52) (v := undef) (a' := ?_) #[true, true, true, true, true, true, true, true, true, true, true, true, true, true, false, false] rfl rfl (any_of HT_.out (by kernel_rfl)) (fun _ _ _ h => h) (Or.inr ⟨by rfl, rfl⟩) ?_ ?_
     rotate_left
     ·
      simp only [Act.put, sA_, sZ_, sS_, i64_w, i32_w]
      rfl
     refine pure_ (i := 14) (N := some 53) (v := undef) (a' := ?_) #[true, true, true, true, true, true, true, true, true, true, true, true, true, true, true, false] rfl rfl (any_of HT_.out (by kernel_rfl)) (fun _ _ _ h => h) (Or.inr ⟨by rfl, rfl⟩) ?_ ?_
     rotate_left
     ·
      simp only [Act.put, sA_, sZ_, sS_, i64_w, i32_w]
      rfl
     refine pure_ (i := 15) (N := some 54) (v := ?_) (a' := ?_) #[true, true, true, true, true, true, true, true, true, true, true, true, true, true, true, true] rfl rfl (any_of HT_.out (by kernel_rfl)) (fun _ _ _ h => h) (Or.inl ⟨by rfl, ?_⟩) ?_ ?_
     rotate_left
     ·
      intro w'
      go_simp
      with_reducible rfl
     rotate_left
     ·
      simp only [Act.put, sA_, sZ_, sS_, i64_w, i32_w]
      rfl
     refine done_ (done_of HT_.out (by kernel_rfl)) ?_
     try go_wp2
     go_meet
     case rel => exact ⟨_, (false), E3_, H', ⟨by have := HJ7.out; first | omega | exact Nat.le_refl _⟩, ⟨B1_ BK407.out⟩, ⟨B1_ BK418.out⟩, ⟨W2_⟩⟩
   case rest =>
    clear HC19
    (try clear c1); (try clear c2); (try clear c14); (try clear c14b0); (try clear c15); (try clear c15b0); (try clear c16); (try clear c16b0); (try clear c17); (try clear c17b0); (try clear c18); (try clear c18b0); (try clear c20); (try clear z13_0 z13_1 z13_2 z13_3 z13_4 z13_5 z13_6 z13_7 z13_8 z13_9 y13_0 y13_1 y13_2 y13_3 y13_4 y13_5 y13_6 y13_7 y13_8 y13_9)
    obtain ⟨kq, x54_18, rfl, HA, HJ18, BK407, BK418, HB⟩ := hcut
    cases kq with
    | zero => exact absurd HA.out (by simp [pantryref12_Use.j1])
    | succ kj18 =>
     have H := HA.out
     clear HA
     simp only [pantryref12_Use.j1] at H
     by_cases c31 : x54_18 = true
     ·
      subst c31
      rw [if_pos rfl] at H
      obtain rfl := Option.some.inj H
      go_wp2
      go_ret
      exact ⟨E1_, W2_⟩
     ·
      replace c31 := Bool.eq_false_iff.mpr c31
      subst c31
      rw [if_neg (show ¬ (false = true) by decide)] at H
      by_cases c32 : t413 = true
      ·
       subst c32
       rw [if_pos rfl] at H
       obtain rfl := Option.some.inj H
       have hnb33 := NB418_407.out
       have hnc33 := NB407_418.out
       obtain ⟨z34_0, z34_1, z34_2, z34_3, z34_4, z34_5, z34_6, z34_7, z34_8, z34_9, y34_0, y34_1, y34_2, y34_3, y34_4, y34_5, y34_6, y34_7, y34_8, y34_9⟩ := cz10_ BK418.out
       go_wp2
       go_ret
       exact ⟨E1_, W2_⟩
      ·
       replace c32 := Bool.eq_false_iff.mpr c32
       subst c32
       rw [if_neg (show ¬ (false = true) by decide)] at H
       obtain rfl := Option.some.inj H
       have hnb35 := NB418_407.out
       have hnc35 := NB407_418.out
       obtain ⟨z36_0, z36_1, z36_2, z36_3, z36_4, z36_5, z36_6, z36_7, z36_8, z36_9, y36_0, y36_1, y36_2, y36_3, y36_4, y36_5, y36_6, y36_7, y36_8, y36_9⟩ := cz10_ BK418.out
       go_wp2
       go_ret
       exact ⟨E1_, W2_⟩

end Go.Proofs.YtgpekljckdgggaaGreatDoor.PAll
