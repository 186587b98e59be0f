import Derived.Test.YtgpekljckdgggaaGreatDoorPAllx0
import Derived.Test.YtgpekljckdgggaaGreatDoorPAllx4
import Derived.Test.YtgpekljckdgggaaGreatDoorPAllx13
import Derived.Test.YtgpekljckdgggaaGreatDoorPAllx17
namespace Go.Proofs.YtgpekljckdgggaaGreatDoor.PAll
open Go.RowKit Go.Proofs.YtgpekljckdgggaaGreatDoorW.PrintWords Go.Proofs.YtgpekljckdgggaaGreatDoorW.PrintLast Go.Proofs.YtgpekljckdgggaaGreatDoorW.PrintMore
attribute [local go_sem] max2_int min2_int max_two min_two max_three min_three max_four min_four   -- for this text's walks alone
set_option linter.unusedVariables false
set_option linter.unusedSimpArgs false

/-! ### pantryref12_Kept: function 14 -/
/-- The statuses that are kept without a word: the array of the reference. -/
def usualAt : Nat → Int
 | 0 => 200 | 1 => 203 | 2 => 204 | 3 => 300 | 4 => 301 | 5 => 404 | _ => 410
def usArr : Array Value := #[.int .i64 200, .int .i64 203, .int .i64 204, .int .i64 300, .int .i64 301, .int .i64 404, .int .i64 410]
theorem usArr_at (n : Nat) (h : n < 7) : usArr[n]? = some (.int .i64 (usualAt n)) := by
 match n, h with
 | 0, _ => rfl
 | 1, _ => rfl
 | 2, _ => rfl
 | 3, _ => rfl
 | 4, _ => rfl
 | 5, _ => rfl
 | 6, _ => rfl
 | n + 7, h => omega
def usGo (x : Int) : Nat → Nat → Bool
 | 0, _ => false
 | q + 1, i => if x = usualAt i then true else usGo x q (i + 1)
theorem usual_go (x : Int) (b : Bool) (h : fresh_usual.f x = some b) : usGo x 7 0 = b := by
 unfold fresh_usual.f at h
 simp only [usGo, usualAt]
 by_cases c0 : x = 200
 ·
  rw [if_pos c0] at h ⊢; exact Option.some.inj h
 rw [if_neg c0] at h ⊢
 by_cases c1 : x = 203
 ·
  rw [if_pos c1] at h ⊢; exact Option.some.inj h
 rw [if_neg c1] at h ⊢
 by_cases c2 : x = 204
 ·
  rw [if_pos c2] at h ⊢; exact Option.some.inj h
 rw [if_neg c2] at h ⊢
 by_cases c3 : x = 300
 ·
  rw [if_pos c3] at h ⊢; exact Option.some.inj h
 rw [if_neg c3] at h ⊢
 by_cases c4 : x = 301
 ·
  rw [if_pos c4] at h ⊢; exact Option.some.inj h
 rw [if_neg c4] at h ⊢
 by_cases c5 : x = 404
 ·
  rw [if_pos c5] at h ⊢; exact Option.some.inj h
 rw [if_neg c5] at h ⊢
 by_cases c6 : x = 410
 ·
  rw [if_pos c6] at h ⊢; exact Option.some.inj h
 rw [if_neg c6] at h ⊢
 exact Option.some.inj h
mutual
def pantryref12_Kept.j0 : Nat → List (S70) → Int → List (S70) → Bool → Bool → Bool → Bool → Bool → Bool → Bool → Int → Int → Int → Int → Option (Bool)
 | 0, _, _, _, _, _, _, _, _, _, _, _, _, _, _ => none
 | k + 1, x2, x3, x4, x43, x413000, x413001, x413002, x413003, x413004, x413005, x413006, x413007, x413008, x413009 => if x43 = true then (some false) else ((pantryref03_Get.f k x2 (⟨#[97, 117, 116, 104, 111, 114, 105, 122, 97, 116, 105, 111, 110]⟩ : ByteArray)).bind fun bt413 => (if bt413.2 > 0 then (if x413003 = true then (pantryref12_Kept.j1 k x3 x4 false x413000 x413001 x413002 x413003 x413004 x413005 x413006 x413007 x413008 x413009) else (if x413004 = true then (pantryref12_Kept.j1 k x3 x4 false x413000 x413001 x413002 x413003 x413004 x413005 x413006 x413007 x413008 x413009) else (pantryref12_Kept.j1 k x3 x4 (decide (x413007 < 0)) x413000 x413001 x413002 x413003 x413004 x413005 x413006 x413007 x413008 x413009))) else (pantryref12_Kept.j1 k x3 x4 false x413000 x413001 x413002 x413003 x413004 x413005 x413006 x413007 x413008 x413009)))
def pantryref12_Kept.j1 : Nat → Int → List (S70) → Bool → Bool → Bool → Bool → Bool → Bool → Bool → Int → Int → Int → Int → Option (Bool)
 | 0, _, _, _, _, _, _, _, _, _, _, _, _, _ => none
 | k + 1, x3, x4, x65, x413000, x413001, x413002, x413003, x413004, x413005, x413006, x413007, x413008, x413009 => if x65 = true then (some false) else ((pantryref11_Names.f k x4).bind fun bt415 => (if bt415.2 = true then (some false) else ((fresh_usual.f x3).bind fun t419 => (if t419 = true then (some true) else (if x3 < 200 then (some false) else (if x3 > 599 then (some false) else (if x3 = 206 then (some false) else (if x3 = 304 then (some false) else ((pantryref03_Get.f k x4 (⟨#[101, 120, 112, 105, 114, 101, 115]⟩ : ByteArray)).bind fun bt420 => (if x413006 ≥ 0 then (some true) else (if x413007 ≥ 0 then (some true) else (some (decide (bt420.2 > 0))))))))))))))
end
def pantryref12_Kept.f (k : Nat) (a0_0 : ByteArray) (a0_1 : Int) (a0_2 : Int) (a0_3 : Int) (a0_4 : Bool) (a0_5 : Bool) (l0_6 : List ByteArray) (a1 : ByteArray) (l2 : List (S70)) (a3 : Int) (l4 : List (S70)) : Option (Bool) := (pantryref04_Of.f k l2).bind fun bt391 => ((pantryref04_Of.f k l4).bind fun bt402 => (if a0_5 = true then (if a1.toList = ([71, 69, 84] : List UInt8) then (if bt391.1 = true then (pantryref12_Kept.j0 k l2 a3 l4 true bt402.1 bt402.2.1 bt402.2.2.1 bt402.2.2.2.1 bt402.2.2.2.2.1 bt402.2.2.2.2.2.1 bt402.2.2.2.2.2.2.1 bt402.2.2.2.2.2.2.2.1 bt402.2.2.2.2.2.2.2.2.1 bt402.2.2.2.2.2.2.2.2.2) else (if bt402.1 = true then (pantryref12_Kept.j0 k l2 a3 l4 true bt402.1 bt402.2.1 bt402.2.2.1 bt402.2.2.2.1 bt402.2.2.2.2.1 bt402.2.2.2.2.2.1 bt402.2.2.2.2.2.2.1 bt402.2.2.2.2.2.2.2.1 bt402.2.2.2.2.2.2.2.2.1 bt402.2.2.2.2.2.2.2.2.2) else (pantryref12_Kept.j0 k l2 a3 l4 bt402.2.2.1 bt402.1 bt402.2.1 bt402.2.2.1 bt402.2.2.2.1 bt402.2.2.2.2.1 bt402.2.2.2.2.2.1 bt402.2.2.2.2.2.2.1 bt402.2.2.2.2.2.2.2.1 bt402.2.2.2.2.2.2.2.2.1 bt402.2.2.2.2.2.2.2.2.2))) else (pantryref12_Kept.j0 k l2 a3 l4 true bt402.1 bt402.2.1 bt402.2.2.1 bt402.2.2.2.1 bt402.2.2.2.2.1 bt402.2.2.2.2.2.1 bt402.2.2.2.2.2.2.1 bt402.2.2.2.2.2.2.2.1 bt402.2.2.2.2.2.2.2.2.1 bt402.2.2.2.2.2.2.2.2.2)) else (pantryref12_Kept.j0 k l2 a3 l4 true bt402.1 bt402.2.1 bt402.2.2.1 bt402.2.2.2.1 bt402.2.2.2.2.1 bt402.2.2.2.2.2.1 bt402.2.2.2.2.2.2.1 bt402.2.2.2.2.2.2.2.1 bt402.2.2.2.2.2.2.2.2.1 bt402.2.2.2.2.2.2.2.2.2)))
theorem pantryref12_Kept.mono_l : ∀ k, (∀ y0 y1 y2 y3 y4 y5 y6 y7 y8 y9 y10 y11 y12 y13, LeO (pantryref12_Kept.j0 k y0 y1 y2 y3 y4 y5 y6 y7 y8 y9 y10 y11 y12 y13) (pantryref12_Kept.j0 (k + 1) y0 y1 y2 y3 y4 y5 y6 y7 y8 y9 y10 y11 y12 y13)) ∧ (∀ y0 y1 y2 y3 y4 y5 y6 y7 y8 y9 y10 y11 y12, LeO (pantryref12_Kept.j1 k y0 y1 y2 y3 y4 y5 y6 y7 y8 y9 y10 y11 y12) (pantryref12_Kept.j1 (k + 1) y0 y1 y2 y3 y4 y5 y6 y7 y8 y9 y10 y11 y12))
 | 0 => ⟨fun _ _ _ _ _ _ _ _ _ _ _ _ _ _ r h => by simp [pantryref12_Kept.j0] at h, fun _ _ _ _ _ _ _ _ _ _ _ _ _ r h => by simp [pantryref12_Kept.j1] at h⟩
 | k + 1 => by
  obtain ⟨ih0, ih1⟩ := pantryref12_Kept.mono_l k
  refine ⟨?_, ?_⟩
  ·
   intro y0 y1 y2 y3 y4 y5 y6 y7 y8 y9 y10 y11 y12 y13
   unfold pantryref12_Kept.j0
   repeat' (with_reducible first | exact ih0 _ _ _ _ _ _ _ _ _ _ _ _ _ _ | exact ih1 _ _ _ _ _ _ _ _ _ _ _ _ _ | exact pantryref03_Get.mono _ _ _ | exact pantryref04_Of.mono _ _ | exact pantryref11_Names.mono _ _ | exact lR_ | refine LeO.ite ?_ ?_ | refine LeO.bind ?_ (fun _ => ?_))
  ·
   intro y0 y1 y2 y3 y4 y5 y6 y7 y8 y9 y10 y11 y12
   unfold pantryref12_Kept.j1
   repeat' (with_reducible first | exact ih0 _ _ _ _ _ _ _ _ _ _ _ _ _ _ | exact ih1 _ _ _ _ _ _ _ _ _ _ _ _ _ | exact pantryref03_Get.mono _ _ _ | exact pantryref04_Of.mono _ _ | exact pantryref11_Names.mono _ _ | exact lR_ | refine LeO.ite ?_ ?_ | refine LeO.bind ?_ (fun _ => ?_))
theorem pantryref12_Kept.mono : ∀ a0 a1 a2 a3 a4 a5 a6 a7 a8 a9 a10 k, LeO (pantryref12_Kept.f k a0 a1 a2 a3 a4 a5 a6 a7 a8 a9 a10) (pantryref12_Kept.f (k + 1) a0 a1 a2 a3 a4 a5 a6 a7 a8 a9 a10) := by
 intro a0 a1 a2 a3 a4 a5 a6 a7 a8 a9 a10 k
 obtain ⟨ih0, ih1⟩ := pantryref12_Kept.mono_l k
 unfold pantryref12_Kept.f
 repeat' (with_reducible first | exact ih0 _ _ _ _ _ _ _ _ _ _ _ _ _ _ | exact ih1 _ _ _ _ _ _ _ _ _ _ _ _ _ | exact pantryref03_Get.mono _ _ _ | exact pantryref04_Of.mono _ _ | exact pantryref11_Names.mono _ _ | exact lR_ | refine LeO.ite ?_ ?_ | refine LeO.bind ?_ (fun _ => ?_))
set_option maxHeartbeats 8000000 in
set_option maxRecDepth 100000 in
theorem pantryref12_Kept.calls (k : Nat) (a0_0 : ByteArray) (a0_1 : Int) (a0_2 : Int) (a0_3 : Int) (a0_4 : Bool) (a0_5 : Bool) (A0_6 : Option Addr) (c0_6 : Nat) (l0_6 : List ByteArray) (a1 : ByteArray) (A2 : Option Addr) (c2 : Nat) (l2 : List (S70)) (a3 : Int) (A4 : Option Addr) (c4 : Nat) (l4 : List (S70)) (r : Bool) (w : World) (hr0_6 : Kd.C Kd.string w A0_6 l0_6.length l0_6) (hc0_6 : l0_6.length ≤ c0_6) (hr2 : Kd.C k70 w A2 l2.length l2) (hc2 : l2.length ≤ c2) (hr4 : Kd.C k70 w A4 l4.length l4) (hc4 : l4.length ≤ c4) (h : pantryref12_Kept.f k a0_0 a0_1 a0_2 a0_3 a0_4 a0_5 l0_6 a1 l2 a3 l4 = some r) :
  Calls Tryz.prog 14 #[.agg #[.string a0_0, .int .i64 a0_1, .int .i64 a0_2, .int .i64 a0_3, .bool a0_4, .bool a0_5, .slice A0_6 l0_6.length c0_6], .string a1, .slice A2 l2.length c2, .int .i64 a3, .slice A4 l4.length c4] w fun e w' => e = .returned (.bool r) ∧ Below w.heap.size w w' := by
 have hu32 := Tryz.underlying32
 have hu64 := Tryz.underlying64
 have HR0_6 := Aside0.mk hr0_6
 have HC0_6 := Aside0.mk hc0_6
 clear hr0_6 hc0_6
 have HR2 := Aside0.mk hr2
 have HC2 := Aside0.mk hc2
 clear hr2 hc2
 have HR4 := Aside0.mk hr4
 have HC4 := Aside0.mk hc4
 clear hr4 hc4
 have HB := Aside0.mk (Below.refl w.heap.size w)
 have H : ((pantryref04_Of.f k l2).bind fun bt391 => ((pantryref04_Of.f k l4).bind fun bt402 => (if a0_5 = true then (if a1.toList = ([71, 69, 84] : List UInt8) then (if bt391.1 = true then (pantryref12_Kept.j0 k l2 a3 l4 true bt402.1 bt402.2.1 bt402.2.2.1 bt402.2.2.2.1 bt402.2.2.2.2.1 bt402.2.2.2.2.2.1 bt402.2.2.2.2.2.2.1 bt402.2.2.2.2.2.2.2.1 bt402.2.2.2.2.2.2.2.2.1 bt402.2.2.2.2.2.2.2.2.2) else (if bt402.1 = true then (pantryref12_Kept.j0 k l2 a3 l4 true bt402.1 bt402.2.1 bt402.2.2.1 bt402.2.2.2.1 bt402.2.2.2.2.1 bt402.2.2.2.2.2.1 bt402.2.2.2.2.2.2.1 bt402.2.2.2.2.2.2.2.1 bt402.2.2.2.2.2.2.2.2.1 bt402.2.2.2.2.2.2.2.2.2) else (pantryref12_Kept.j0 k l2 a3 l4 bt402.2.2.1 bt402.1 bt402.2.1 bt402.2.2.1 bt402.2.2.2.1 bt402.2.2.2.2.1 bt402.2.2.2.2.2.1 bt402.2.2.2.2.2.2.1 bt402.2.2.2.2.2.2.2.1 bt402.2.2.2.2.2.2.2.2.1 bt402.2.2.2.2.2.2.2.2.2))) else (pantryref12_Kept.j0 k l2 a3 l4 true bt402.1 bt402.2.1 bt402.2.2.1 bt402.2.2.2.1 bt402.2.2.2.2.1 bt402.2.2.2.2.2.1 bt402.2.2.2.2.2.2.1 bt402.2.2.2.2.2.2.2.1 bt402.2.2.2.2.2.2.2.2.1 bt402.2.2.2.2.2.2.2.2.2)) else (pantryref12_Kept.j0 k l2 a3 l4 true bt402.1 bt402.2.1 bt402.2.2.1 bt402.2.2.2.1 bt402.2.2.2.2.1 bt402.2.2.2.2.2.1 bt402.2.2.2.2.2.2.1 bt402.2.2.2.2.2.2.2.1 bt402.2.2.2.2.2.2.2.2.1 bt402.2.2.2.2.2.2.2.2.2)))) = some r := h
 clear h
 obtain ⟨⟨t391, t392, t393, t394, t395, t396, t397, t398, t399, t400⟩, A6, H⟩ := bS_ H
 try dsimp only at H
 obtain ⟨⟨t402, t403, t404, t405, t406, t407, t408, t409, t410, t411⟩, A7, H⟩ := bS_ H
 try dsimp only at H
 have HC8 := Aside0.mk H
 clear H
 go_enter Tryz.func14, Tryz.ntmps14
 go_upto_region 3 with (first | ((with_reducible refine gate_dst (N := 5) rfl ?_); refine box_event ?hg (N := 5) ?hd (cs := #[.string a0_0, .int .i64 a0_1, .int .i64 a0_2, .int .i64 a0_3, .bool a0_4, .bool a0_5, .slice A0_6 l0_6.length c0_6]) (t := 32) ?hr ?_; (case hd | hg => rfl); (case hr => exact S1_); intro gb390 hg w9 hbox hb; have BK390 := Aside0.mk (hbox); have GW390 := Aside0.mk ((Z1_ : w.heap.size ≤ gb390)); have GE390 := Aside0.mk ((Z1_ : w.heap.size ≤ gb390)); replace HB := y1_ hb; clear hb hbox hg) | ((with_reducible refine gate_callee (f := 31) rfl ?_); refine goesL_ (some 22) rfl rfl Tryz.func31 (by kernel_rfl) rfl #[.slice A2 l2.length c2] rfl T1_ ?_; (with_reducible refine (pantryref04_Of.calls k _ _ l2 t391 t392 t393 t394 t395 t396 t397 t398 t399 t400 _ ?side1 ?side2 A6.out).mono ?_); (case side1 => exact C1_ ((Kd.C_below HR2.out HB.out))); (case side2 => exact HC2.out); rintro e w10 ⟨rfl, hb⟩; refine ⟨_, rfl, ?_⟩; replace BK390 := yB_ BK390 hb; replace HB := y2_ hb; (try clear hb)) | ((with_reducible refine gate_dst (N := 11) rfl ?_); refine box_event ?hg (N := 11) ?hd (cs := #[.bool false, .bool false, .bool false, .bool false, .bool false, .bool false, .int .i64 0, .int .i64 0, .int .i64 0, .int .i64 0]) (t := 64) ?hr ?_; (case hd | hg => rfl); (case hr => exact S1_); intro gb401 hg w11 hbox hb; have BK401 := Aside0.mk (hbox); have GW401 := Aside0.mk ((Z2_ : w.heap.size ≤ gb401)); have GE401 := Aside0.mk ((Z2_ : w.heap.size ≤ gb401)); have NB390_401 := Aside0.mk ((by rw [hg]; exact Nat.ne_of_lt (blk_lt (B1_ BK390.out)) : gb390 ≠ gb401)); have NB401_390 := Aside0.mk ((by rw [hg]; exact Nat.ne_of_gt (blk_lt (B1_ BK390.out)) : gb401 ≠ gb390)); replace BK390 := yB_ BK390 hb; replace HB := y2_ hb; clear hb hbox hg; have hnb12 := NB401_390.out; have hnc12 := NB390_401.out; obtain ⟨z13_0, z13_1, z13_2, z13_3, z13_4, z13_5, z13_6, z13_7, z13_8, z13_9, y13_0, y13_1, y13_2, y13_3, y13_4, y13_5, y13_6, y13_7, y13_8, y13_9⟩ := cz10_ BK401.out) | ((with_reducible refine gate_callee (f := 31) rfl ?_); refine goesL_ (some 24) rfl rfl Tryz.func31 (by kernel_rfl) rfl #[.slice A4 l4.length c4] rfl T1_ ?_; (with_reducible refine (pantryref04_Of.calls k _ _ l4 t402 t403 t404 t405 t406 t407 t408 t409 t410 t411 _ ?side1 ?side2 A7.out).mono ?_); (case side1 => exact Kd.C_below HR4.out W2_); (case side2 => exact HC4.out); rintro e w14 ⟨rfl, hb⟩; refine ⟨_, rfl, ?_⟩; replace BK390 := Aside0.mk (blk_below (g := gb390) (o := .cells #[.string a0_0, .int .i64 a0_1, .int .i64 a0_2, .int .i64 a0_3, .bool a0_4, .bool a0_5, .slice A0_6 l0_6.length c0_6] 32 (0, 0)) (G1_ BK390.out) hb); replace BK401 := Aside0.mk (blk_below (g := gb401) (o := .cells #[.bool t391, .bool t392, .bool t393, .bool t394, .bool t395, .bool t396, .int .i64 t397, .int .i64 t398, .int .i64 t399, .int .i64 t400] 64 (0, 0)) (G1_ BK401.out) hb); replace HB := y2_ hb; (try clear hb)) | ((with_reducible refine gate_dst (N := 12) rfl ?_); refine box_event ?hg (N := 12) ?hd (cs := #[.bool false, .bool false, .bool false, .bool false, .bool false, .bool false, .int .i64 0, .int .i64 0, .int .i64 0, .int .i64 0]) (t := 64) ?hr ?_; (case hd | hg => rfl); (case hr => exact S1_); intro gb412 hg w15 hbox hb; have BK412 := Aside0.mk (hbox); have GW412 := Aside0.mk ((Z2_ : w.heap.size ≤ gb412)); have GE412 := Aside0.mk ((Z2_ : w.heap.size ≤ gb412)); have NB390_412 := Aside0.mk ((by rw [hg]; exact Nat.ne_of_lt (blk_lt (B1_ BK390.out)) : gb390 ≠ gb412)); have NB412_390 := Aside0.mk ((by rw [hg]; exact Nat.ne_of_gt (blk_lt (B1_ BK390.out)) : gb412 ≠ gb390)); have NB401_412 := Aside0.mk ((by rw [hg]; exact Nat.ne_of_lt (blk_lt (B1_ BK401.out)) : gb401 ≠ gb412)); have NB412_401 := Aside0.mk ((by rw [hg]; exact Nat.ne_of_gt (blk_lt (B1_ BK401.out)) : gb412 ≠ gb401)); replace BK390 := yB_ BK390 hb; replace BK401 := yB_ BK401 hb; replace HB := y2_ hb; clear hb hbox hg; have hnb16 := NB412_390.out; have hnc16 := NB390_412.out; have hnb17 := NB412_401.out; have hnc17 := NB401_412.out; obtain ⟨z18_0, z18_1, z18_2, z18_3, z18_4, z18_5, z18_6, z18_7, z18_8, z18_9, y18_0, y18_1, y18_2, y18_3, y18_4, y18_5, y18_6, y18_7, y18_8, y18_9⟩ := cz10_ BK412.out))
 (try simp only [Act.put, sA_, sZ_, sS_])
 go_cut [43] (fun v43 wc => ∃ (kq : Nat) (x43_7 : Bool), v43 = .bool x43_7 ∧ Aside0 (pantryref12_Kept.j0 kq l2 a3 l4 x43_7 t402 t403 t404 t405 t406 t407 t408 t409 t410 t411 = some r) ∧ Aside0 (kq ≤ k) ∧ Aside0 (wc.heap[gb390]? = some (.cells #[.string a0_0, .int .i64 a0_1, .int .i64 a0_2, .int .i64 a0_3, .bool a0_4, .bool a0_5, (.slice A0_6 l0_6.length c0_6)] 32 (0, 0))) ∧ Aside0 (wc.heap[gb401]? = some (.cells #[.bool t391, .bool t392, .bool t393, .bool t394, .bool t395, .bool t396, .int .i64 t397, .int .i64 t398, .int .i64 t399, .int .i64 t400] 64 (0, 0))) ∧ Aside0 (wc.heap[gb412]? = some (.cells #[.bool t402, .bool t403, .bool t404, .bool t405, .bool t406, .bool t407, .int .i64 t408, .int .i64 t409, .int .i64 t410, .int .i64 t411] 64 (0, 0))) ∧ Aside0 (Below w.heap.size w wc))
 case first =>
  have H := HC8.out
  clear HC8
  by_cases c19 : a0_5 = true
  ·
   subst c19
   rw [if_pos rfl] at H
   by_cases c20 : a1.toList = ([71, 69, 84] : List UInt8)
   ·
    rw [if_pos c20] at H
    have c20b0 : (a1.toList == ([71, 69, 84] : List UInt8)) = true := beq_iff_eq.mpr c20
    have c20b1 : (a1.toList != ([71, 69, 84] : List UInt8)) = false := bne_eq_false_iff_eq.mpr c20
    clear c20
    (first | rw [c20b0] | (simp only [i64_w, i32_w]; rw [c20b0]) | skip)
    by_cases c21 : t391 = true
    ·
     subst c21
     rw [if_pos rfl] at H
     have H' := Aside0.mk H
     clear H
     have hnb22 := NB390_401.out
     have hnc22 := NB401_390.out
     have hnb23 := NB390_412.out
     have hnc23 := NB412_390.out
     obtain ⟨z24_0, z24_1, z24_2, z24_3, z24_4, z24_5, z24_6, y24_0, y24_1, y24_2, y24_3, y24_4, y24_5, y24_6⟩ := cz7_ BK390.out
     have hnb25 := NB401_412.out
     have hnc25 := NB412_401.out
     obtain ⟨z26_0, z26_1, z26_2, z26_3, z26_4, z26_5, z26_6, z26_7, z26_8, z26_9, y26_0, y26_1, y26_2, y26_3, y26_4, y26_5, y26_6, y26_7, y26_8, y26_9⟩ := cz10_ BK401.out
     go_wp2
     go_meet
     case rel => exact ⟨_, (true), E3_, H', ⟨by first | omega | exact Nat.le_refl _⟩, ⟨G1_ BK390.out⟩, ⟨G1_ BK401.out⟩, ⟨G1_ BK412.out⟩, ⟨W2_⟩⟩
    ·
     replace c21 := Bool.eq_false_iff.mpr c21
     subst c21
     rw [if_neg (show ¬ (false = true) by decide)] at H
     by_cases c27 : t402 = true
     ·
      subst c27
      rw [if_pos rfl] at H
      have H' := Aside0.mk H
      clear H
      have hnb28 := NB390_401.out
      have hnc28 := NB401_390.out
      have hnb29 := NB390_412.out
      have hnc29 := NB412_390.out
      obtain ⟨z30_0, z30_1, z30_2, z30_3, z30_4, z30_5, z30_6, y30_0, y30_1, y30_2, y30_3, y30_4, y30_5, y30_6⟩ := cz7_ BK390.out
      have hnb31 := NB401_412.out
      have hnc31 := NB412_401.out
      obtain ⟨z32_0, z32_1, z32_2, z32_3, z32_4, z32_5, z32_6, z32_7, z32_8, z32_9, y32_0, y32_1, y32_2, y32_3, y32_4, y32_5, y32_6, y32_7, y32_8, y32_9⟩ := cz10_ BK401.out
      obtain ⟨z33_0, z33_1, z33_2, z33_3, z33_4, z33_5, z33_6, z33_7, z33_8, z33_9, y33_0, y33_1, y33_2, y33_3, y33_4, y33_5, y33_6, y33_7, y33_8, y33_9⟩ := cz10_ BK412.out
      go_wp2
      go_meet
      case rel => exact ⟨_, (true), E3_, H', ⟨by first | omega | exact Nat.le_refl _⟩, ⟨G1_ BK390.out⟩, ⟨G1_ BK401.out⟩, ⟨G1_ BK412.out⟩, ⟨W2_⟩⟩
     ·
      replace c27 := Bool.eq_false_iff.mpr c27
      subst c27
      rw [if_neg (show ¬ (false = true) by decide)] at H
      have H' := Aside0.mk H
      clear H
      have hnb34 := NB390_401.out
      have hnc34 := NB401_390.out
      have hnb35 := NB390_412.out
      have hnc35 := NB412_390.out
      obtain ⟨z36_0, z36_1, z36_2, z36_3, z36_4, z36_5, z36_6, y36_0, y36_1, y36_2, y36_3, y36_4, y36_5, y36_6⟩ := cz7_ BK390.out
      have hnb37 := NB401_412.out
      have hnc37 := NB412_401.out
      obtain ⟨z38_0, z38_1, z38_2, z38_3, z38_4, z38_5, z38_6, z38_7, z38_8, z38_9, y38_0, y38_1, y38_2, y38_3, y38_4, y38_5, y38_6, y38_7, y38_8, y38_9⟩ := cz10_ BK401.out
      obtain ⟨z39_0, z39_1, z39_2, z39_3, z39_4, z39_5, z39_6, z39_7, z39_8, z39_9, y39_0, y39_1, y39_2, y39_3, y39_4, y39_5, y39_6, y39_7, y39_8, y39_9⟩ := cz10_ BK412.out
      go_wp2
      go_meet
      case rel => exact ⟨_, (t404), E3_, H', ⟨by first | omega | exact Nat.le_refl _⟩, ⟨G1_ BK390.out⟩, ⟨G1_ BK401.out⟩, ⟨G1_ BK412.out⟩, ⟨W2_⟩⟩
   ·
    rw [if_neg c20] at H
    have c20b0 : (a1.toList == ([71, 69, 84] : List UInt8)) = false := beq_eq_false_iff_ne.mpr c20
    have c20b1 : (a1.toList != ([71, 69, 84] : List UInt8)) = true := bne_iff_ne.mpr c20
    (first | rw [c20b0] | (simp only [i64_w, i32_w]; rw [c20b0]) | skip)
    have H' := Aside0.mk H
    clear H
    have hnb40 := NB390_401.out
    have hnc40 := NB401_390.out
    have hnb41 := NB390_412.out
    have hnc41 := NB412_390.out
    obtain ⟨z42_0, z42_1, z42_2, z42_3, z42_4, z42_5, z42_6, y42_0, y42_1, y42_2, y42_3, y42_4, y42_5, y42_6⟩ := cz7_ BK390.out
    go_wp2
    go_meet
    case rel => exact ⟨_, (true), E3_, H', ⟨by first | omega | exact Nat.le_refl _⟩, ⟨G1_ BK390.out⟩, ⟨G1_ BK401.out⟩, ⟨G1_ BK412.out⟩, ⟨W2_⟩⟩
  ·
   replace c19 := Bool.eq_false_iff.mpr c19
   subst c19
   rw [if_neg (show ¬ (false = true) by decide)] at H
   have H' := Aside0.mk H
   clear H
   have hnb43 := NB390_401.out
   have hnc43 := NB401_390.out
   have hnb44 := NB390_412.out
   have hnc44 := NB412_390.out
   obtain ⟨z45_0, z45_1, z45_2, z45_3, z45_4, z45_5, z45_6, y45_0, y45_1, y45_2, y45_3, y45_4, y45_5, y45_6⟩ := cz7_ BK390.out
   go_wp2
   go_meet
   case rel => exact ⟨_, (true), E3_, H', ⟨by first | omega | exact Nat.le_refl _⟩, ⟨G1_ BK390.out⟩, ⟨G1_ BK401.out⟩, ⟨G1_ BK412.out⟩, ⟨W2_⟩⟩
 case rest =>
  clear HC8
  (try clear c2); (try clear c4); (try clear c19); (try clear c20); (try clear c20b0); (try clear c20b1); (try clear c21); (try clear c27); (try clear z13_0 z13_1 z13_2 z13_3 z13_4 z13_5 z13_6 z13_7 z13_8 z13_9 y13_0 y13_1 y13_2 y13_3 y13_4 y13_5 y13_6 y13_7 y13_8 y13_9); (try clear z18_0 z18_1 z18_2 z18_3 z18_4 z18_5 z18_6 z18_7 z18_8 z18_9 y18_0 y18_1 y18_2 y18_3 y18_4 y18_5 y18_6 y18_7 y18_8 y18_9); (try clear z24_0 z24_1 z24_2 z24_3 z24_4 z24_5 z24_6 y24_0 y24_1 y24_2 y24_3 y24_4 y24_5 y24_6); (try clear z26_0 z26_1 z26_2 z26_3 z26_4 z26_5 z26_6 z26_7 z26_8 z26_9 y26_0 y26_1 y26_2 y26_3 y26_4 y26_5 y26_6 y26_7 y26_8 y26_9); (try clear z30_0 z30_1 z30_2 z30_3 z30_4 z30_5 z30_6 y30_0 y30_1 y30_2 y30_3 y30_4 y30_5 y30_6); (try clear z32_0 z32_1 z32_2 z32_3 z32_4 z32_5 z32_6 z32_7 z32_8 z32_9 y32_0 y32_1 y32_2 y32_3 y32_4 y32_5 y32_6 y32_7 y32_8 y32_9); (try clear z33_0 z33_1 z33_2 z33_3 z33_4 z33_5 z33_6 z33_7 z33_8 z33_9 y33_0 y33_1 y33_2 y33_3 y33_4 y33_5 y33_6 y33_7 y33_8 y33_9); (try clear z36_0 z36_1 z36_2 z36_3 z36_4 z36_5 z36_6 y36_0 y36_1 y36_2 y36_3 y36_4 y36_5 y36_6); (try clear z38_0 z38_1 z38_2 z38_3 z38_4 z38_5 z38_6 z38_7 z38_8 z38_9 y38_0 y38_1 y38_2 y38_3 y38_4 y38_5 y38_6 y38_7 y38_8 y38_9); (try clear z39_0 z39_1 z39_2 z39_3 z39_4 z39_5 z39_6 z39_7 z39_8 z39_9 y39_0 y39_1 y39_2 y39_3 y39_4 y39_5 y39_6 y39_7 y39_8 y39_9); (try clear z42_0 z42_1 z42_2 z42_3 z42_4 z42_5 z42_6 y42_0 y42_1 y42_2 y42_3 y42_4 y42_5 y42_6); (try clear z45_0 z45_1 z45_2 z45_3 z45_4 z45_5 z45_6 y45_0 y45_1 y45_2 y45_3 y45_4 y45_5 y45_6)
  obtain ⟨kq, x43_7, rfl, HA, HJ7, BK390, BK401, BK412, HB⟩ := hcut
  cases kq with
  | zero => exact absurd HA.out (by simp [pantryref12_Kept.j0])
  | succ kj7 =>
   have H := HA.out
   clear HA
   simp only [pantryref12_Kept.j0] at H
   by_cases c46 : x43_7 = true
   ·
    subst c46
    rw [if_pos rfl] at H
    obtain rfl := Option.some.inj H
    go_wp2
    go_ret
    exact ⟨E1_, W2_⟩
   ·
    replace c46 := Bool.eq_false_iff.mpr c46
    subst c46
    rw [if_neg (show ¬ (false = true) by decide)] at H
    obtain ⟨⟨t413, t414⟩, A47, H⟩ := bS_ H
    try dsimp only at H
    have HC48 := Aside0.mk H
    clear H
    go_upto_region 6 with (first | ((with_reducible refine gate_callee (f := 32) rfl ?_); refine goesL_ (some 46) rfl rfl Tryz.func32 (by kernel_rfl) rfl #[.slice A2 l2.length c2, .string (⟨#[97, 117, 116, 104, 111, 114, 105, 122, 97, 116, 105, 111, 110]⟩ : ByteArray)] rfl T1_ ?_; (with_reducible refine (pantryref03_Get.calls kj7 _ _ l2 (⟨#[97, 117, 116, 104, 111, 114, 105, 122, 97, 116, 105, 111, 110]⟩ : ByteArray) t413 t414 _ ?side1 ?side2 A47.out).mono ?_); (case side1 => exact C1_ ((Kd.C_below HR2.out HB.out))); (case side2 => exact HC2.out); rintro e w49 ⟨rfl, hb⟩; refine ⟨_, rfl, ?_⟩; replace BK390 := yB_ BK390 hb; replace BK401 := yB_ BK401 hb; replace BK412 := yB_ BK412 hb; replace HB := y2_ hb; (try clear hb)))
    (try simp only [Act.put, sA_, sZ_, sS_])
    go_cut [65] (fun v65 wc => ∃ (kq : Nat) (x65_47 : Bool), v65 = .bool x65_47 ∧ Aside0 (pantryref12_Kept.j1 kq a3 l4 x65_47 t402 t403 t404 t405 t406 t407 t408 t409 t410 t411 = some r) ∧ Aside0 (kq ≤ kj7) ∧ Aside0 (wc.heap[gb390]? = some (.cells #[.string a0_0, .int .i64 a0_1, .int .i64 a0_2, .int .i64 a0_3, .bool a0_4, .bool a0_5, (.slice A0_6 l0_6.length c0_6)] 32 (0, 0))) ∧ Aside0 (wc.heap[gb401]? = some (.cells #[.bool t391, .bool t392, .bool t393, .bool t394, .bool t395, .bool t396, .int .i64 t397, .int .i64 t398, .int .i64 t399, .int .i64 t400] 64 (0, 0))) ∧ Aside0 (wc.heap[gb412]? = some (.cells #[.bool t402, .bool t403, .bool t404, .bool t405, .bool t406, .bool t407, .int .i64 t408, .int .i64 t409, .int .i64 t410, .int .i64 t411] 64 (0, 0))) ∧ Aside0 (Below w.heap.size w wc))
    case first =>
     have H := HC48.out
     clear HC48
     by_cases c50 : t414 > 0
     ·
      rw [if_pos c50] at H
      have c50b0 : decide (0 < t414) = true := decide_eq_true c50
      clear c50
      (first | rw [c50b0] | (simp only [i64_w, i32_w]; rw [c50b0]) | skip)
      by_cases c51 : t405 = true
      ·
       subst c51
       rw [if_pos rfl] at H
       have H' := Aside0.mk H
       clear H
       have hnb52 := NB412_390.out
       have hnc52 := NB390_412.out
       have hnb53 := NB412_401.out
       have hnc53 := NB401_412.out
       obtain ⟨z54_0, z54_1, z54_2, z54_3, z54_4, z54_5, z54_6, z54_7, z54_8, z54_9, y54_0, y54_1, y54_2, y54_3, y54_4, y54_5, y54_6, y54_7, y54_8, y54_9⟩ := cz10_ BK412.out
       go_wp2
       go_meet
       case rel => exact ⟨_, (false), E3_, H', ⟨by have := HJ7.out; first | omega | exact Nat.le_refl _⟩, ⟨B1_ BK390.out⟩, ⟨B1_ BK401.out⟩, ⟨B1_ BK412.out⟩, ⟨W2_⟩⟩
      ·
       replace c51 := Bool.eq_false_iff.mpr c51
       subst c51
       rw [if_neg (show ¬ (false = true) by decide)] at H
       by_cases c55 : t406 = true
       ·
        subst c55
        rw [if_pos rfl] at H
        have H' := Aside0.mk H
        clear H
        have hnb56 := NB412_390.out
        have hnc56 := NB390_412.out
        have hnb57 := NB412_401.out
        have hnc57 := NB401_412.out
        obtain ⟨z58_0, z58_1, z58_2, z58_3, z58_4, z58_5, z58_6, z58_7, z58_8, z58_9, y58_0, y58_1, y58_2, y58_3, y58_4, y58_5, y58_6, y58_7, y58_8, y58_9⟩ := cz10_ BK412.out
        go_wp2
        go_meet
        case rel => exact ⟨_, (false), E3_, H', ⟨by have := HJ7.out; first | omega | exact Nat.le_refl _⟩, ⟨B1_ BK390.out⟩, ⟨B1_ BK401.out⟩, ⟨B1_ BK412.out⟩, ⟨W2_⟩⟩
       ·
        replace c55 := Bool.eq_false_iff.mpr c55
        subst c55
        rw [if_neg (show ¬ (false = true) by decide)] at H
        have H' := Aside0.mk H
        clear H
        have hnb59 := NB412_390.out
        have hnc59 := NB390_412.out
        have hnb60 := NB412_401.out
        have hnc60 := NB401_412.out
        obtain ⟨z61_0, z61_1, z61_2, z61_3, z61_4, z61_5, z61_6, z61_7, z61_8, z61_9, y61_0, y61_1, y61_2, y61_3, y61_4, y61_5, y61_6, y61_7, y61_8, y61_9⟩ := cz10_ BK412.out
        go_wp2
        go_meet
        case rel => exact ⟨_, (decide (t409 < 0)), E3_, H', ⟨by have := HJ7.out; first | omega | exact Nat.le_refl _⟩, ⟨B1_ BK390.out⟩, ⟨B1_ BK401.out⟩, ⟨B1_ BK412.out⟩, ⟨W2_⟩⟩
     ·
      rw [if_neg c50] at H
      have c50b0 : decide (0 < t414) = false := decide_eq_false c50
      clear c50
      (first | rw [c50b0] | (simp only [i64_w, i32_w]; rw [c50b0]) | skip)
      have H' := Aside0.mk H
      clear H
      go_wp2
      go_meet
      case rel => exact ⟨_, (false), E3_, H', ⟨by have := HJ7.out; first | omega | exact Nat.le_refl _⟩, ⟨B1_ BK390.out⟩, ⟨B1_ BK401.out⟩, ⟨B1_ BK412.out⟩, ⟨W2_⟩⟩
    case rest =>
     clear HC48
     (try clear c2); (try clear c4); (try clear c19); (try clear c20); (try clear c20b0); (try clear c20b1); (try clear c21); (try clear c27); (try clear c46); (try clear c50); (try clear c50b0); (try clear c51); (try clear c55); (try clear z13_0 z13_1 z13_2 z13_3 z13_4 z13_5 z13_6 z13_7 z13_8 z13_9 y13_0 y13_1 y13_2 y13_3 y13_4 y13_5 y13_6 y13_7 y13_8 y13_9); (try clear z18_0 z18_1 z18_2 z18_3 z18_4 z18_5 z18_6 z18_7 z18_8 z18_9 y18_0 y18_1 y18_2 y18_3 y18_4 y18_5 y18_6 y18_7 y18_8 y18_9); (try clear z24_0 z24_1 z24_2 z24_3 z24_4 z24_5 z24_6 y24_0 y24_1 y24_2 y24_3 y24_4 y24_5 y24_6); (try clear z26_0 z26_1 z26_2 z26_3 z26_4 z26_5 z26_6 z26_7 z26_8 z26_9 y26_0 y26_1 y26_2 y26_3 y26_4 y26_5 y26_6 y26_7 y26_8 y26_9); (try clear z30_0 z30_1 z30_2 z30_3 z30_4 z30_5 z30_6 y30_0 y30_1 y30_2 y30_3 y30_4 y30_5 y30_6); (try clear z32_0 z32_1 z32_2 z32_3 z32_4 z32_5 z32_6 z32_7 z32_8 z32_9 y32_0 y32_1 y32_2 y32_3 y32_4 y32_5 y32_6 y32_7 y32_8 y32_9); (try clear z33_0 z33_1 z33_2 z33_3 z33_4 z33_5 z33_6 z33_7 z33_8 z33_9 y33_0 y33_1 y33_2 y33_3 y33_4 y33_5 y33_6 y33_7 y33_8 y33_9); (try clear z36_0 z36_1 z36_2 z36_3 z36_4 z36_5 z36_6 y36_0 y36_1 y36_2 y36_3 y36_4 y36_5 y36_6); (try clear z38_0 z38_1 z38_2 z38_3 z38_4 z38_5 z38_6 z38_7 z38_8 z38_9 y38_0 y38_1 y38_2 y38_3 y38_4 y38_5 y38_6 y38_7 y38_8 y38_9); (try clear z39_0 z39_1 z39_2 z39_3 z39_4 z39_5 z39_6 z39_7 z39_8 z39_9 y39_0 y39_1 y39_2 y39_3 y39_4 y39_5 y39_6 y39_7 y39_8 y39_9); (try clear z42_0 z42_1 z42_2 z42_3 z42_4 z42_5 z42_6 y42_0 y42_1 y42_2 y42_3 y42_4 y42_5 y42_6); (try clear z45_0 z45_1 z45_2 z45_3 z45_4 z45_5 z45_6 y45_0 y45_1 y45_2 y45_3 y45_4 y45_5 y45_6); (try clear z54_0 z54_1 z54_2 z54_3 z54_4 z54_5 z54_6 z54_7 z54_8 z54_9 y54_0 y54_1 y54_2 y54_3 y54_4 y54_5 y54_6 y54_7 y54_8 y54_9); (try clear z58_0 z58_1 z58_2 z58_3 z58_4 z58_5 z58_6 z58_7 z58_8 z58_9 y58_0 y58_1 y58_2 y58_3 y58_4 y58_5 y58_6 y58_7 y58_8 y58_9); (try clear z61_0 z61_1 z61_2 z61_3 z61_4 z61_5 z61_6 z61_7 z61_8 z61_9 y61_0 y61_1 y61_2 y61_3 y61_4 y61_5 y61_6 y61_7 y61_8 y61_9)
     obtain ⟨kq, x65_47, rfl, HA, HJ47, BK390, BK401, BK412, HB⟩ := hcut
     cases kq with
     | zero => exact absurd HA.out (by simp [pantryref12_Kept.j1])
     | succ kj47 =>
      have H := HA.out
      clear HA
      simp only [pantryref12_Kept.j1] at H
      by_cases c62 : x65_47 = true
      ·
       subst c62
       rw [if_pos rfl] at H
       obtain rfl := Option.some.inj H
       go_wp2
       go_ret
       exact ⟨E1_, W2_⟩
      ·
       replace c62 := Bool.eq_false_iff.mpr c62
       subst c62
       rw [if_neg (show ¬ (false = true) by decide)] at H
       obtain ⟨⟨t415, t416⟩, A63, H⟩ := bS_ H
       try dsimp only at H
       by_cases c64 : t416 = true
       ·
        subst c64
        rw [if_pos rfl] at H
        obtain rfl := Option.some.inj H
        go_wp2_with (first | ((with_reducible refine gate_callee (f := 33) rfl ?_); refine goesL_ (some 68) rfl rfl Tryz.func33 (by kernel_rfl) rfl #[.slice A4 l4.length c4] rfl T1_ ?_; (with_reducible refine (pantryref11_Names.calls kj47 _ _ l4 t415 true _ ?side1 ?side2 A63.out).mono ?_); (case side1 => exact C1_ ((Kd.C_below HR4.out HB.out))); (case side2 => exact HC4.out); rintro e w65 ⟨v417, rfl, ho0, hb⟩; refine ⟨_, rfl, ?_⟩; have HO418 := Aside0.mk (Kd.R_lower ho0 (below_size W2_)); replace BK390 := yB_ BK390 hb; replace BK401 := yB_ BK401 hb; replace BK412 := yB_ BK412 hb; replace HB := y2_ hb; (try clear hb); (try clear ho0)))
        go_ret
        exact ⟨E1_, W2_⟩
       ·
        replace c64 := Bool.eq_false_iff.mpr c64
        subst c64
        rw [if_neg (show ¬ (false = true) by decide)] at H
        obtain ⟨t419, A66, H⟩ := bS_ H
        try dsimp only at H
        have HU := Aside0.mk (usual_go a3 t419 A66.out)
        have HH9 := Aside0.mk H
        clear H A66
        go_wp2_with (first | ((with_reducible refine gate_callee (f := 33) rfl ?_); refine goesL_ (some 68) rfl rfl Tryz.func33 (by kernel_rfl) rfl #[.slice A4 l4.length c4] rfl T1_ ?_; (with_reducible refine (pantryref11_Names.calls kj47 _ _ l4 t415 false _ ?side1 ?side2 A63.out).mono ?_); (case side1 => exact C1_ ((Kd.C_below HR4.out HB.out))); (case side2 => exact HC4.out); rintro e w90 ⟨v417, rfl, ho0, hb⟩; refine ⟨_, rfl, ?_⟩; have HO418 := Aside0.mk (Kd.R_lower ho0 (below_size W2_)); replace BK390 := yB_ BK390 hb; replace BK401 := yB_ BK401 hb; replace BK412 := yB_ BK412 hb; replace HB := y2_ hb; (try clear hb); (try clear ho0)))
        go_loopg [18] 7 (fun kq v18 w' => ∃ i : Int, v18 = .int .i64 i ∧ Aside0 (0 ≤ i ∧ i + kq = 7 ∧ usGo a3 kq i.toNat = t419) ∧ Aside0 (w'.heap[w90.heap.size]? = some (.cells usArr 69 (0, 0))) ∧ Aside0 (w'.heap[gb390]? = some (.cells #[.string a0_0, .int .i64 a0_1, .int .i64 a0_2, .int .i64 a0_3, .bool a0_4, .bool a0_5, .slice A0_6 l0_6.length c0_6] 32 (0, 0))) ∧ Aside0 (w'.heap[gb401]? = some (.cells #[.bool t391, .bool t392, .bool t393, .bool t394, .bool t395, .bool t396, .int .i64 t397, .int .i64 t398, .int .i64 t399, .int .i64 t400] 64 (0, 0))) ∧ Aside0 (w'.heap[gb412]? = some (.cells #[.bool t402, .bool t403, .bool t404, .bool t405, .bool t406, .bool t407, .int .i64 t408, .int .i64 t409, .int .i64 t410, .int .i64 t411] 64 (0, 0))) ∧ Aside0 (Below w.heap.size w w'))
        case atStart => exact ⟨0, rfl, ⟨by omega, by omega, HU.out⟩, ⟨heap_alloc_new _ _⟩, ⟨B1_ BK390.out⟩, ⟨B1_ BK401.out⟩, ⟨B1_ BK412.out⟩, ⟨W1_⟩⟩
        case round =>
         clear HB BK390 BK401 BK412 HU
         obtain ⟨i, rfl, HI, HA9, BK390, BK401, BK412, HB⟩ := hrel
         cases gk with
         | succ k2 =>
          obtain ⟨hi1, hi2, hi3⟩ := HI.out
          clear HI
          obtain ⟨n, rfl⟩ := Int.eq_ofNat_of_zero_le (show 0 ≤ i by omega)
          have hcell : wr.cell? ⟨w90.heap.size, n, none⟩ = some (.int .i64 (usualAt n)) := by
           rw [Lib.cell_of_heap HA9.out]
           exact usArr_at n (by omega)
          have h7 : decide ((n : Int) < 7) = true := decide_eq_true (by omega)
          have p7 : ((n : Int) < 7) = True := eq_true (by omega)
          have p0 : (0 ≤ (n : Int)) = True := eq_true (by omega)
          have HN := Aside0.mk (And.intro hi1 (And.intro hi2 hi3))
          by_cases he : a3 = usualAt n
          ·
           have heb : (a3 == usualAt n) = true := beq_iff_eq.mpr he
           have e9 : t419 = true := by
            simp only [usGo, Int.toNat_natCast] at hi3
            rw [if_pos he] at hi3
            exact hi3.symm
           have H := HH9.out
           clear HH9 he hi1 hi2 hi3
           subst e9
           have H1 := Option.some.inj ((if_pos rfl).symm.trans H)
           subst H1
           generalize usualAt n = mo at hcell heb
           go_wp2
           go_ret
           exact ⟨by first | rfl | (simp; done), W1_⟩
          ·
           have heb : (a3 == usualAt n) = false := beq_eq_false_iff_ne.mpr he
           have HE := Aside0.mk he
           clear he hi1 hi2 hi3
           generalize usualAt n = mo at hcell heb
           go_wp2
           go_roundg k2
           case measure => omega
           case rel =>
            obtain ⟨hi1, hi2, hi3⟩ := HN.out
            refine ⟨(n : Int) + 1, ?_, ⟨by omega, by omega, ?_⟩, ⟨B1_ HA9.out⟩, ⟨B1_ BK390.out⟩, ⟨B1_ BK401.out⟩, ⟨B1_ BK412.out⟩, ⟨W1_⟩⟩
            ·
             first | rfl | (rw [show wrap64 ((n : Int) + 1) = (n : Int) + 1 by unfold wrap64; omega])
            ·
             rw [show ((n : Int) + 1).toNat = n + 1 by omega]
             simp only [usGo, Int.toNat_natCast] at hi3
             rwa [if_neg (by exact HE.out)] at hi3
         | zero =>
          obtain ⟨hi1, hi2, hi3⟩ := HI.out
          have h7 : decide (i < 7) = false := decide_eq_false (by omega)
          have e9 : t419 = false := hi3.symm
          have H := HH9.out
          clear HI HH9 HA9 hi1 hi2 hi3
          subst e9
          replace H := (if_neg (show ¬ (false = true) by decide)).symm.trans H
          by_cases c69 : a3 < 200
          ·
           rw [if_pos c69] at H
           have c69b0 : decide (a3 < 200) = true := decide_eq_true c69
           clear c69
           obtain rfl := Option.some.inj H
           go_wp2
           go_ret
           exact ⟨E1_, W2_⟩
          ·
           rw [if_neg c69] at H
           have c69b0 : decide (a3 < 200) = false := decide_eq_false c69
           clear c69
           by_cases c71 : a3 > 599
           ·
            rw [if_pos c71] at H
            have c71b0 : decide (599 < a3) = true := decide_eq_true c71
            clear c71
            obtain rfl := Option.some.inj H
            go_wp2
            go_ret
            exact ⟨E1_, W2_⟩
           ·
            rw [if_neg c71] at H
            have c71b0 : decide (599 < a3) = false := decide_eq_false c71
            clear c71
            by_cases c73 : a3 = 206
            ·
             rw [if_pos c73] at H
             have c73b0 : (a3 == 206) = true := beq_iff_eq.mpr c73
             have c73b1 : (a3 != 206) = false := bne_eq_false_iff_eq.mpr c73
             clear c73
             obtain rfl := Option.some.inj H
             go_wp2
             go_ret
             exact ⟨E1_, W2_⟩
            ·
             rw [if_neg c73] at H
             have c73b0 : (a3 == 206) = false := beq_eq_false_iff_ne.mpr c73
             have c73b1 : (a3 != 206) = true := bne_iff_ne.mpr c73
             by_cases c75 : a3 = 304
             ·
              rw [if_pos c75] at H
              have c75b0 : (a3 == 304) = true := beq_iff_eq.mpr c75
              have c75b1 : (a3 != 304) = false := bne_eq_false_iff_eq.mpr c75
              clear c75
              obtain rfl := Option.some.inj H
              go_wp2
              go_ret
              exact ⟨E1_, W2_⟩
             ·
              rw [if_neg c75] at H
              have c75b0 : (a3 == 304) = false := beq_eq_false_iff_ne.mpr c75
              have c75b1 : (a3 != 304) = true := bne_iff_ne.mpr c75
              obtain ⟨⟨t420, t421⟩, A77, H⟩ := bS_ H
              try dsimp only at H
              by_cases c78 : t408 ≥ 0
              ·
               rw [if_pos c78] at H
               have c78b0 : decide (0 ≤ t408) = true := decide_eq_true c78
               clear c78
               obtain rfl := Option.some.inj H
               go_wp2_with (first | ((with_reducible refine gate_callee (f := 32) rfl ?_); refine goesL_ (some 98) rfl rfl Tryz.func32 (by kernel_rfl) rfl #[.slice A4 l4.length c4, .string (⟨#[101, 120, 112, 105, 114, 101, 115]⟩ : ByteArray)] rfl T1_ ?_; (with_reducible refine (pantryref03_Get.calls kj47 _ _ l4 (⟨#[101, 120, 112, 105, 114, 101, 115]⟩ : ByteArray) t420 t421 _ ?side1 ?side2 A77.out).mono ?_); (case side1 => exact C1_ ((Kd.C_below HR4.out W2_))); (case side2 => exact HC4.out); rintro e w80 ⟨rfl, hb⟩; refine ⟨_, rfl, ?_⟩; replace HO418 := HO418; replace BK390 := yB_ BK390 hb; replace BK401 := yB_ BK401 hb; replace BK412 := yB_ BK412 hb; replace HB := y2_ hb; (try clear hb); have hnb81 := NB412_390.out; have hnc81 := NB390_412.out; have hnb82 := NB412_401.out; have hnc82 := NB401_412.out; obtain ⟨z83_0, z83_1, z83_2, z83_3, z83_4, z83_5, z83_6, z83_7, z83_8, z83_9, y83_0, y83_1, y83_2, y83_3, y83_4, y83_5, y83_6, y83_7, y83_8, y83_9⟩ := cz10_ BK412.out))
               go_ret
               exact ⟨E1_, W2_⟩
              ·
               rw [if_neg c78] at H
               have c78b0 : decide (0 ≤ t408) = false := decide_eq_false c78
               clear c78
               by_cases c84 : t409 ≥ 0
               ·
                rw [if_pos c84] at H
                have c84b0 : decide (0 ≤ t409) = true := decide_eq_true c84
                clear c84
                obtain rfl := Option.some.inj H
                go_wp2_with (first | ((with_reducible refine gate_callee (f := 32) rfl ?_); refine goesL_ (some 98) rfl rfl Tryz.func32 (by kernel_rfl) rfl #[.slice A4 l4.length c4, .string (⟨#[101, 120, 112, 105, 114, 101, 115]⟩ : ByteArray)] rfl T1_ ?_; (with_reducible refine (pantryref03_Get.calls kj47 _ _ l4 (⟨#[101, 120, 112, 105, 114, 101, 115]⟩ : ByteArray) t420 t421 _ ?side1 ?side2 A77.out).mono ?_); (case side1 => exact C1_ ((Kd.C_below HR4.out W2_))); (case side2 => exact HC4.out); rintro e w86 ⟨rfl, hb⟩; refine ⟨_, rfl, ?_⟩; replace HO418 := HO418; replace BK390 := yB_ BK390 hb; replace BK401 := yB_ BK401 hb; replace BK412 := yB_ BK412 hb; replace HB := y2_ hb; (try clear hb); have hnb87 := NB412_390.out; have hnc87 := NB390_412.out; have hnb88 := NB412_401.out; have hnc88 := NB401_412.out; obtain ⟨z89_0, z89_1, z89_2, z89_3, z89_4, z89_5, z89_6, z89_7, z89_8, z89_9, y89_0, y89_1, y89_2, y89_3, y89_4, y89_5, y89_6, y89_7, y89_8, y89_9⟩ := cz10_ BK412.out))
                go_ret
                exact ⟨E1_, W2_⟩
               ·
                rw [if_neg c84] at H
                have c84b0 : decide (0 ≤ t409) = false := decide_eq_false c84
                clear c84
                obtain rfl := Option.some.inj H
                go_wp2_with (first | ((with_reducible refine gate_callee (f := 32) rfl ?_); refine goesL_ (some 98) rfl rfl Tryz.func32 (by kernel_rfl) rfl #[.slice A4 l4.length c4, .string (⟨#[101, 120, 112, 105, 114, 101, 115]⟩ : ByteArray)] rfl T1_ ?_; (with_reducible refine (pantryref03_Get.calls kj47 _ _ l4 (⟨#[101, 120, 112, 105, 114, 101, 115]⟩ : ByteArray) t420 t421 _ ?side1 ?side2 A77.out).mono ?_); (case side1 => exact C1_ ((Kd.C_below HR4.out W2_))); (case side2 => exact HC4.out); rintro e w91 ⟨rfl, hb⟩; refine ⟨_, rfl, ?_⟩; replace HO418 := HO418; replace BK390 := yB_ BK390 hb; replace BK401 := yB_ BK401 hb; replace BK412 := yB_ BK412 hb; replace HB := y2_ hb; (try clear hb); have hnb92 := NB412_390.out; have hnc92 := NB390_412.out; have hnb93 := NB412_401.out; have hnc93 := NB401_412.out; obtain ⟨z94_0, z94_1, z94_2, z94_3, z94_4, z94_5, z94_6, z94_7, z94_8, z94_9, y94_0, y94_1, y94_2, y94_3, y94_4, y94_5, y94_6, y94_7, y94_8, y94_9⟩ := cz10_ BK412.out))
                go_ret
                exact ⟨E1_, W2_⟩

end Go.Proofs.YtgpekljckdgggaaGreatDoor.PAll
