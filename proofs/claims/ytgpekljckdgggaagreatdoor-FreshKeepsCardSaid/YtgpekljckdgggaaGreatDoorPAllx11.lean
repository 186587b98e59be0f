import Derived.Test.YtgpekljckdgggaaGreatDoorPAllx0
import Derived.Test.YtgpekljckdgggaaGreatDoorPAllx4
import Derived.Test.YtgpekljckdgggaaGreatDoorPAllx5
import Derived.Test.YtgpekljckdgggaaGreatDoorPAllx6
import Derived.Test.YtgpekljckdgggaaGreatDoorPAllx9
import Derived.Test.YtgpekljckdgggaaGreatDoorPAllx10
namespace Go.Proofs.YtgpekljckdgggaaGreatDoor.PAll
open Go.RowKit Go.Proofs.YtgpekljckdgggaaGreatDoorW.PrintWords Go.Proofs.YtgpekljckdgggaaGreatDoorW.PrintLast Go.Proofs.YtgpekljckdgggaaGreatDoorW.PrintMore
attribute [local go_sem] max2_int min2_int max_two min_two max_three min_three max_four min_four   -- for this text's walks alone
set_option linter.unusedVariables false
set_option linter.unusedSimpArgs false

/-! ### fresh_Use: function 21 -/
def fresh_Use.j0 : Nat → Bool → Bool → Bool → Bool → Bool → Bool → Bool → Int → Int → Int → Int → Option (Int)
 | 0, _, _, _, _, _, _, _, _, _, _, _ => none
 | k + 1, x19, x249000, x249001, x249002, x249003, x249004, x249005, x249006, x249007, x249008, x249009 => if x19 = true then (some 0) else (if x249005 = true then (some 2) else (some 1))
def fresh_Use.f (k : Nat) (a0_0 : ByteArray) (a0_1 : Int) (a0_2 : Int) (a0_3 : Int) (a0_4 : Bool) (a0_5 : Bool) (l0_6 : List ByteArray) (l1 : List (S46)) (l2 : List (S46)) (a3 : Int) (a4 : Int) (a5 : Int) : Option (Int) := (control_Of.f k l1).bind fun bt228 => ((control_Of.f k l2).bind fun bt238 => ((fresh_times.f k (([a3, a4, a5] : List Int))).bind fun t253 => (if t253 = true then ((fresh_Age.f k l2 a3 a4 a5).bind fun t254 => ((fresh_Life.f k a0_0 a0_1 a0_2 a0_3 a0_4 a0_5 l0_6 l2 a4).bind fun t255 => ((fresh_may.f k bt228.1 bt228.2.1 bt228.2.2.1 bt228.2.2.2.1 bt228.2.2.2.2.1 bt228.2.2.2.2.2.1 bt228.2.2.2.2.2.2.1 bt228.2.2.2.2.2.2.2.1 bt228.2.2.2.2.2.2.2.2.1 bt228.2.2.2.2.2.2.2.2.2 bt238.1 bt238.2.1 bt238.2.2.1 bt238.2.2.2.1 bt238.2.2.2.2.1 bt238.2.2.2.2.2.1 bt238.2.2.2.2.2.2.1 bt238.2.2.2.2.2.2.2.1 bt238.2.2.2.2.2.2.2.2.1 bt238.2.2.2.2.2.2.2.2.2 t254 t255).bind fun t256 => (fresh_Use.j0 k t256 bt228.1 bt228.2.1 bt228.2.2.1 bt228.2.2.2.1 bt228.2.2.2.2.1 bt228.2.2.2.2.2.1 bt228.2.2.2.2.2.2.1 bt228.2.2.2.2.2.2.2.1 bt228.2.2.2.2.2.2.2.2.1 bt228.2.2.2.2.2.2.2.2.2)))) else (fresh_Use.j0 k false bt228.1 bt228.2.1 bt228.2.2.1 bt228.2.2.2.1 bt228.2.2.2.2.1 bt228.2.2.2.2.2.1 bt228.2.2.2.2.2.2.1 bt228.2.2.2.2.2.2.2.1 bt228.2.2.2.2.2.2.2.2.1 bt228.2.2.2.2.2.2.2.2.2))))
theorem fresh_Use.mono_l : ∀ k, (∀ y0 y1 y2 y3 y4 y5 y6 y7 y8 y9 y10, LeO (fresh_Use.j0 k y0 y1 y2 y3 y4 y5 y6 y7 y8 y9 y10) (fresh_Use.j0 (k + 1) y0 y1 y2 y3 y4 y5 y6 y7 y8 y9 y10))
 | 0 => fun _ _ _ _ _ _ _ _ _ _ _ r h => by simp [fresh_Use.j0] at h
 | k + 1 => by
  have ih0 := fresh_Use.mono_l k
  ·
   intro y0 y1 y2 y3 y4 y5 y6 y7 y8 y9 y10
   unfold fresh_Use.j0
   repeat' (with_reducible first | exact ih0 _ _ _ _ _ _ _ _ _ _ _ | exact control_Of.mono _ _ | exact fresh_Age.mono _ _ _ _ _ | exact fresh_Life.mono _ _ _ _ _ _ _ _ _ _ | exact fresh_may.mono _ _ _ _ _ _ _ _ _ _ _ _ _ _ _ _ _ _ _ _ _ _ _ | exact fresh_times.mono _ _ | exact lR_ | refine LeO.ite ?_ ?_ | refine LeO.bind ?_ (fun _ => ?_))
theorem fresh_Use.mono : ∀ a0 a1 a2 a3 a4 a5 a6 a7 a8 a9 a10 a11 k, LeO (fresh_Use.f k a0 a1 a2 a3 a4 a5 a6 a7 a8 a9 a10 a11) (fresh_Use.f (k + 1) a0 a1 a2 a3 a4 a5 a6 a7 a8 a9 a10 a11) := by
 intro a0 a1 a2 a3 a4 a5 a6 a7 a8 a9 a10 a11 k
 have ih0 := fresh_Use.mono_l k
 unfold fresh_Use.f
 repeat' (with_reducible first | exact ih0 _ _ _ _ _ _ _ _ _ _ _ | exact control_Of.mono _ _ | exact fresh_Age.mono _ _ _ _ _ | exact fresh_Life.mono _ _ _ _ _ _ _ _ _ _ | exact fresh_may.mono _ _ _ _ _ _ _ _ _ _ _ _ _ _ _ _ _ _ _ _ _ _ _ | exact fresh_times.mono _ _ | exact lR_ | refine LeO.ite ?_ ?_ | refine LeO.bind ?_ (fun _ => ?_))
def fresh_Use.T2 : Bool × List (List Nat × List Nat) := (true, [([], []), ([], []), ([], []), ([0, 1, 2], [0, 1, 2]), ([3], [3]), ([4, 4], [4]), ([5], [5]), ([5], [5]), ([5], [5]), ([5], [5]), ([5], [5]), ([5], [5]), ([8, 9, 10, 11, 5, 5], [5, 8, 9, 10, 11]), ([5], [5]), ([5], [5]), ([5], [5]), ([13, 14, 15, 12, 5], [5, 13, 14, 15]), ([6, 7, 12, 16, 16, 5], [5, 6, 7, 12, 16]), ([5, 17], [5, 17]), ([18, 17], [18])])
def fresh_Use.B2 : List Nat := [0, 0, 0, 7, 15, 31, 63, 63, 63, 63, 63, 63, 3903, 63, 63, 63, 65343, 131071, 262143, 524287]
theorem fresh_Use.tab2 : rtab .any (opsOf Tryz.f21 2) = fresh_Use.T2 := by kernel_rfl
theorem fresh_Use.bits2 : waitsOk fresh_Use.T2.2 fresh_Use.B2 = true := by kernel_rfl
set_option maxHeartbeats 8000000 in
set_option maxRecDepth 100000 in
theorem fresh_Use.calls (k : Nat) (a0_0 : ByteArray) (a0_1 : Int) (a0_2 : Int) (a0_3 : Int) (a0_4 : Bool) (a0_5 : Bool) (A0_6 : Option Addr) (c0_6 : Nat) (l0_6 : List ByteArray) (A1 : Option Addr) (c1 : Nat) (l1 : List (S46)) (A2 : Option Addr) (c2 : Nat) (l2 : List (S46)) (a3 : Int) (a4 : Int) (a5 : Int) (r : Int) (w : World) (hr0_6 : Kd.C Kd.string w A0_6 l0_6.length l0_6) (hc0_6 : l0_6.length ≤ c0_6) (hr1 : Kd.C k46 w A1 l1.length l1) (hc1 : l1.length ≤ c1) (hr2 : Kd.C k46 w A2 l2.length l2) (hc2 : l2.length ≤ c2) (hrW : WF w) (h : fresh_Use.f k a0_0 a0_1 a0_2 a0_3 a0_4 a0_5 l0_6 l1 l2 a3 a4 a5 = some r) :
  Calls Tryz.prog 21 #[.agg #[.string a0_0, .int .i64 a0_1, .int .i64 a0_2, .int .i64 a0_3, .bool a0_4, .bool a0_5, .slice A0_6 l0_6.length c0_6], .slice A1 l1.length c1, .slice A2 l2.length c2, .int .i64 a3, .int .i64 a4, .int .i64 a5] w fun e w' => e = .returned (.int .i64 r) ∧ Below w.heap.size w w' := by
 have hu24 := Tryz.underlying24
 have hu57 := Tryz.underlying57
 have HRW := Aside0.mk hrW
 clear hrW
 have HR0_6 := Aside0.mk hr0_6
 have HC0_6 := Aside0.mk hc0_6
 clear hr0_6 hc0_6
 have HR1 := Aside0.mk hr1
 have HC1 := Aside0.mk hc1
 clear hr1 hc1
 have HR2 := Aside0.mk hr2
 have HC2 := Aside0.mk hc2
 clear hr2 hc2
 have HB := Aside0.mk (Below.refl w.heap.size w)
 have H : ((control_Of.f k l1).bind fun bt228 => ((control_Of.f k l2).bind fun bt238 => ((fresh_times.f k (([a3, a4, a5] : List Int))).bind fun t253 => (if t253 = true then ((fresh_Age.f k l2 a3 a4 a5).bind fun t254 => ((fresh_Life.f k a0_0 a0_1 a0_2 a0_3 a0_4 a0_5 l0_6 l2 a4).bind fun t255 => ((fresh_may.f k bt228.1 bt228.2.1 bt228.2.2.1 bt228.2.2.2.1 bt228.2.2.2.2.1 bt228.2.2.2.2.2.1 bt228.2.2.2.2.2.2.1 bt228.2.2.2.2.2.2.2.1 bt228.2.2.2.2.2.2.2.2.1 bt228.2.2.2.2.2.2.2.2.2 bt238.1 bt238.2.1 bt238.2.2.1 bt238.2.2.2.1 bt238.2.2.2.2.1 bt238.2.2.2.2.2.1 bt238.2.2.2.2.2.2.1 bt238.2.2.2.2.2.2.2.1 bt238.2.2.2.2.2.2.2.2.1 bt238.2.2.2.2.2.2.2.2.2 t254 t255).bind fun t256 => (fresh_Use.j0 k t256 bt228.1 bt228.2.1 bt228.2.2.1 bt228.2.2.2.1 bt228.2.2.2.2.1 bt228.2.2.2.2.2.1 bt228.2.2.2.2.2.2.1 bt228.2.2.2.2.2.2.2.1 bt228.2.2.2.2.2.2.2.2.1 bt228.2.2.2.2.2.2.2.2.2)))) else (fresh_Use.j0 k false bt228.1 bt228.2.1 bt228.2.2.1 bt228.2.2.2.1 bt228.2.2.2.2.1 bt228.2.2.2.2.2.1 bt228.2.2.2.2.2.2.1 bt228.2.2.2.2.2.2.2.1 bt228.2.2.2.2.2.2.2.2.1 bt228.2.2.2.2.2.2.2.2.2))))) = some r := h
 clear h
 obtain ⟨⟨t228, t229, t230, t231, t232, t233, t234, t235, t236, t237⟩, A7, H⟩ := bS_ H
 try dsimp only at H
 obtain ⟨⟨t238, t239, t240, t241, t242, t243, t244, t245, t246, t247⟩, A8, H⟩ := bS_ H
 try dsimp only at H
 have HC9 := Aside0.mk H
 clear H
 go_enter Tryz.func21, Tryz.ntmps21
 go_upto_region 2 with (first | ((with_reducible refine gate_dst (N := 6) rfl ?_); refine box_event ?hg (N := 6) ?hd (cs := #[.string a0_0, .int .i64 a0_1, .int .i64 a0_2, .int .i64 a0_3, .bool a0_4, .bool a0_5, .slice A0_6 l0_6.length c0_6]) (t := 24) ?hr ?_; (case hd | hg => rfl); (case hr => exact S1_); intro gb227 hg w10 hbox hb; have BK227 := Aside0.mk (hbox); have GW227 := Aside0.mk ((Z1_ : w.heap.size ≤ gb227)); have GE227 := Aside0.mk ((Z1_ : w.heap.size ≤ gb227)); replace HB := y1_ hb; clear hb hbox hg) | ((with_reducible refine gate_callee (f := 27) rfl ?_); refine goesL_ (some 16) rfl rfl Tryz.func27 (by kernel_rfl) rfl #[.slice A1 l1.length c1] rfl T1_ ?_; (with_reducible refine (control_Of.calls k _ _ l1 t228 t229 t230 t231 t232 t233 t234 t235 t236 t237 _ ?side1 ?side2 A7.out).mono ?_); (case side1 => exact C1_ ((Kd.C_below HR1.out HB.out))); (case side2 => exact HC1.out); rintro e w11 ⟨rfl, hb⟩; refine ⟨_, rfl, ?_⟩; replace BK227 := yB_ BK227 hb; replace HB := y2_ hb; (try clear hb)) | ((with_reducible refine gate_callee (f := 27) rfl ?_); refine goesL_ (some 18) rfl rfl Tryz.func27 (by kernel_rfl) rfl #[.slice A2 l2.length c2] rfl T1_ ?_; (with_reducible refine (control_Of.calls k _ _ l2 t238 t239 t240 t241 t242 t243 t244 t245 t246 t247 _ ?side1 ?side2 A8.out).mono ?_); (case side1 => exact C1_ ((Kd.C_below HR2.out HB.out))); (case side2 => exact HC2.out); rintro e w12 ⟨rfl, hb⟩; refine ⟨_, rfl, ?_⟩; replace BK227 := yB_ BK227 hb; replace HB := y2_ hb; (try clear hb)) | ((with_reducible refine gate_dst (N := 13) rfl ?_); refine box_event ?hg (N := 13) ?hd (cs := #[.bool false, .bool false, .bool false, .bool false, .bool false, .bool false, .int .i64 0, .int .i64 0, .int .i64 0, .int .i64 0]) (t := 57) ?hr ?_; (case hd | hg => rfl); (case hr => exact S1_); intro gb248 hg w13 hbox hb; have BK248 := Aside0.mk (hbox); have GW248 := Aside0.mk ((Z2_ : w.heap.size ≤ gb248)); have GE248 := Aside0.mk ((Z2_ : w.heap.size ≤ gb248)); have NB227_248 := Aside0.mk ((by rw [hg]; exact Nat.ne_of_lt (blk_lt (B1_ BK227.out)) : gb227 ≠ gb248)); have NB248_227 := Aside0.mk ((by rw [hg]; exact Nat.ne_of_gt (blk_lt (B1_ BK227.out)) : gb248 ≠ gb227)); replace BK227 := yB_ BK227 hb; replace HB := y2_ hb; clear hb hbox hg) | ((with_reducible refine gate_dst (N := 14) rfl ?_); refine box_event ?hg (N := 14) ?hd (cs := #[.bool false, .bool false, .bool false, .bool false, .bool false, .bool false, .int .i64 0, .int .i64 0, .int .i64 0, .int .i64 0]) (t := 57) ?hr ?_; (case hd | hg => rfl); (case hr => exact S1_); intro gb249 hg w14 hbox hb; have BK249 := Aside0.mk (hbox); have GW249 := Aside0.mk ((Z2_ : w.heap.size ≤ gb249)); have GE249 := Aside0.mk ((Z2_ : w.heap.size ≤ gb249)); have NB227_249 := Aside0.mk ((by rw [hg]; exact Nat.ne_of_lt (blk_lt (B1_ BK227.out)) : gb227 ≠ gb249)); have NB249_227 := Aside0.mk ((by rw [hg]; exact Nat.ne_of_gt (blk_lt (B1_ BK227.out)) : gb249 ≠ gb227)); have NB248_249 := Aside0.mk ((by rw [hg]; exact Nat.ne_of_lt (blk_lt (B1_ BK248.out)) : gb248 ≠ gb249)); have NB249_248 := Aside0.mk ((by rw [hg]; exact Nat.ne_of_gt (blk_lt (B1_ BK248.out)) : gb249 ≠ gb248)); replace BK227 := yB_ BK227 hb; replace BK248 := yB_ BK248 hb; replace HB := y2_ hb; clear hb hbox hg; have hnb15 := NB248_227.out; have hnc15 := NB227_248.out; have hnb16 := NB248_249.out; have hnc16 := NB249_248.out; obtain ⟨z17_0, z17_1, z17_2, z17_3, z17_4, z17_5, z17_6, z17_7, z17_8, z17_9, y17_0, y17_1, y17_2, y17_3, y17_4, y17_5, y17_6, y17_7, y17_8, y17_9⟩ := cz10_ BK248.out; have hnb18 := NB249_227.out; have hnc18 := NB227_249.out; obtain ⟨z19_0, z19_1, z19_2, z19_3, z19_4, z19_5, z19_6, z19_7, z19_8, z19_9, y19_0, y19_1, y19_2, y19_3, y19_4, y19_5, y19_6, y19_7, y19_8, y19_9⟩ := cz10_ BK249.out))
 (try simp only [Act.put, sA_, sZ_, sS_])
 go_cut [19] (fun v19 wc => ∃ (kq : Nat) (x19_8 : Bool), v19 = .bool x19_8 ∧ Aside0 (fresh_Use.j0 kq x19_8 t228 t229 t230 t231 t232 t233 t234 t235 t236 t237 = some r) ∧ Aside0 (kq ≤ k) ∧ Aside0 (wc.heap[gb227]? = some (.cells #[.string a0_0, .int .i64 a0_1, .int .i64 a0_2, .int .i64 a0_3, .bool a0_4, .bool a0_5, (.slice A0_6 l0_6.length c0_6)] 24 (0, 0))) ∧ Aside0 (wc.heap[gb248]? = some (.cells #[.bool t228, .bool t229, .bool t230, .bool t231, .bool t232, .bool t233, .int .i64 t234, .int .i64 t235, .int .i64 t236, .int .i64 t237] 57 (0, 0))) ∧ Aside0 (wc.heap[gb249]? = some (.cells #[.bool t238, .bool t239, .bool t240, .bool t241, .bool t242, .bool t243, .int .i64 t244, .int .i64 t245, .int .i64 t246, .int .i64 t247] 57 (0, 0))) ∧ Aside0 (Below w.heap.size w wc))
 case first =>
  have H := HC9.out
  clear HC9
  obtain ⟨y250, hy250⟩ : ∃ y_ : List Int, y_ = (([a3, a4, a5] : List Int)) := ⟨_, rfl⟩
  replace H : ((fresh_times.f k y250).bind fun t253 => (if t253 = true then ((fresh_Age.f k l2 a3 a4 a5).bind fun t254 => ((fresh_Life.f k a0_0 a0_1 a0_2 a0_3 a0_4 a0_5 l0_6 l2 a4).bind fun t255 => ((fresh_may.f k t228 t229 t230 t231 t232 t233 t234 t235 t236 t237 t238 t239 t240 t241 t242 t243 t244 t245 t246 t247 t254 t255).bind fun t256 => (fresh_Use.j0 k t256 t228 t229 t230 t231 t232 t233 t234 t235 t236 t237)))) else (fresh_Use.j0 k false t228 t229 t230 t231 t232 t233 t234 t235 t236 t237))) = some r := by first | (rw [hy250]; with_reducible exact H) | (have H2_ := (Option.bind_some _ _).symm.trans H; rw [hy250]; with_reducible exact H2_) | (have H2_ := (Option.bind_some _ _).symm.trans H; with_reducible exact H2_) | with_reducible exact H | (rw [hy250]; exact H) | exact H
  have Ny250 := Aside0.mk hy250
  clear hy250
  obtain ⟨t253, A20, H⟩ := bS_ H
  try dsimp only at H
  by_cases c21 : t253 = true
  ·
   subst c21
   rw [if_pos rfl] at H
   obtain ⟨t254, A22, H⟩ := bS_ H
   try dsimp only at H
   obtain ⟨t255, A23, H⟩ := bS_ H
   try dsimp only at H
   obtain ⟨t256, A24, H⟩ := bS_ H
   try dsimp only at H
   have H' := Aside0.mk H
   clear H
   try go_wp2
   have n0_ : Aside0 (((((((((((((((((((((w14.setCell ⟨gb248, 0, none⟩ (.bool t228)).setCell ⟨gb248, 1, none⟩ (.bool t229)).setCell ⟨gb248, 2, none⟩ (.bool t230)).setCell ⟨gb248, 3, none⟩ (.bool t231)).setCell ⟨gb248, 4, none⟩ (.bool t232)).setCell ⟨gb248, 5, none⟩ (.bool t233)).setCell ⟨gb248, 6, none⟩ (.int .i64 t234)).setCell ⟨gb248, 7, none⟩ (.int .i64 t235)).setCell ⟨gb248, 8, none⟩ (.int .i64 t236)).setCell ⟨gb248, 9, none⟩ (.int .i64 t237)).setCell ⟨gb249, 0, none⟩ (.bool t238)).setCell ⟨gb249, 1, none⟩ (.bool t239)).setCell ⟨gb249, 2, none⟩ (.bool t240)).setCell ⟨gb249, 3, none⟩ (.bool t241)).setCell ⟨gb249, 4, none⟩ (.bool t242)).setCell ⟨gb249, 5, none⟩ (.bool t243)).setCell ⟨gb249, 6, none⟩ (.int .i64 t244)).setCell ⟨gb249, 7, none⟩ (.int .i64 t245)).setCell ⟨gb249, 8, none⟩ (.int .i64 t246)).setCell ⟨gb249, 9, none⟩ (.int .i64 t247)).heap[gb227]? = some (.cells #[.string a0_0, .int .i64 a0_1, .int .i64 a0_2, .int .i64 a0_3, .bool a0_4, .bool a0_5, .slice A0_6 l0_6.length c0_6] 24 (0, 0))) := ⟨G1_ BK227.out⟩
   have n1_ : Aside0 (((((((((((((((((((((w14.setCell ⟨gb248, 0, none⟩ (.bool t228)).setCell ⟨gb248, 1, none⟩ (.bool t229)).setCell ⟨gb248, 2, none⟩ (.bool t230)).setCell ⟨gb248, 3, none⟩ (.bool t231)).setCell ⟨gb248, 4, none⟩ (.bool t232)).setCell ⟨gb248, 5, none⟩ (.bool t233)).setCell ⟨gb248, 6, none⟩ (.int .i64 t234)).setCell ⟨gb248, 7, none⟩ (.int .i64 t235)).setCell ⟨gb248, 8, none⟩ (.int .i64 t236)).setCell ⟨gb248, 9, none⟩ (.int .i64 t237)).setCell ⟨gb249, 0, none⟩ (.bool t238)).setCell ⟨gb249, 1, none⟩ (.bool t239)).setCell ⟨gb249, 2, none⟩ (.bool t240)).setCell ⟨gb249, 3, none⟩ (.bool t241)).setCell ⟨gb249, 4, none⟩ (.bool t242)).setCell ⟨gb249, 5, none⟩ (.bool t243)).setCell ⟨gb249, 6, none⟩ (.int .i64 t244)).setCell ⟨gb249, 7, none⟩ (.int .i64 t245)).setCell ⟨gb249, 8, none⟩ (.int .i64 t246)).setCell ⟨gb249, 9, none⟩ (.int .i64 t247)).heap[gb248]? = some (.cells #[.bool t228, .bool t229, .bool t230, .bool t231, .bool t232, .bool t233, .int .i64 t234, .int .i64 t235, .int .i64 t236, .int .i64 t237] 57 (0, 0))) := ⟨G1_ BK248.out⟩
   have n2_ : Aside0 (((((((((((((((((((((w14.setCell ⟨gb248, 0, none⟩ (.bool t228)).setCell ⟨gb248, 1, none⟩ (.bool t229)).setCell ⟨gb248, 2, none⟩ (.bool t230)).setCell ⟨gb248, 3, none⟩ (.bool t231)).setCell ⟨gb248, 4, none⟩ (.bool t232)).setCell ⟨gb248, 5, none⟩ (.bool t233)).setCell ⟨gb248, 6, none⟩ (.int .i64 t234)).setCell ⟨gb248, 7, none⟩ (.int .i64 t235)).setCell ⟨gb248, 8, none⟩ (.int .i64 t236)).setCell ⟨gb248, 9, none⟩ (.int .i64 t237)).setCell ⟨gb249, 0, none⟩ (.bool t238)).setCell ⟨gb249, 1, none⟩ (.bool t239)).setCell ⟨gb249, 2, none⟩ (.bool t240)).setCell ⟨gb249, 3, none⟩ (.bool t241)).setCell ⟨gb249, 4, none⟩ (.bool t242)).setCell ⟨gb249, 5, none⟩ (.bool t243)).setCell ⟨gb249, 6, none⟩ (.int .i64 t244)).setCell ⟨gb249, 7, none⟩ (.int .i64 t245)).setCell ⟨gb249, 8, none⟩ (.int .i64 t246)).setCell ⟨gb249, 9, none⟩ (.int .i64 t247)).heap[gb249]? = some (.cells #[.bool t238, .bool t239, .bool t240, .bool t241, .bool t242, .bool t243, .int .i64 t244, .int .i64 t245, .int .i64 t246, .int .i64 t247] 57 (0, 0))) := ⟨G1_ BK249.out⟩
   have n3_ : Aside0 (Below w.heap.size w ((((((((((((((((((((w14.setCell ⟨gb248, 0, none⟩ (.bool t228)).setCell ⟨gb248, 1, none⟩ (.bool t229)).setCell ⟨gb248, 2, none⟩ (.bool t230)).setCell ⟨gb248, 3, none⟩ (.bool t231)).setCell ⟨gb248, 4, none⟩ (.bool t232)).setCell ⟨gb248, 5, none⟩ (.bool t233)).setCell ⟨gb248, 6, none⟩ (.int .i64 t234)).setCell ⟨gb248, 7, none⟩ (.int .i64 t235)).setCell ⟨gb248, 8, none⟩ (.int .i64 t236)).setCell ⟨gb248, 9, none⟩ (.int .i64 t237)).setCell ⟨gb249, 0, none⟩ (.bool t238)).setCell ⟨gb249, 1, none⟩ (.bool t239)).setCell ⟨gb249, 2, none⟩ (.bool t240)).setCell ⟨gb249, 3, none⟩ (.bool t241)).setCell ⟨gb249, 4, none⟩ (.bool t242)).setCell ⟨gb249, 5, none⟩ (.bool t243)).setCell ⟨gb249, 6, none⟩ (.int .i64 t244)).setCell ⟨gb249, 7, none⟩ (.int .i64 t245)).setCell ⟨gb249, 8, none⟩ (.int .i64 t246)).setCell ⟨gb249, 9, none⟩ (.int .i64 t247))) := ⟨W2_⟩
   (try clear BK227)
   (try clear BK248)
   (try clear BK249)
   (try clear HB)
   generalize ((((((((((((((((((((w14.setCell ⟨gb248, 0, none⟩ (.bool t228)).setCell ⟨gb248, 1, none⟩ (.bool t229)).setCell ⟨gb248, 2, none⟩ (.bool t230)).setCell ⟨gb248, 3, none⟩ (.bool t231)).setCell ⟨gb248, 4, none⟩ (.bool t232)).setCell ⟨gb248, 5, none⟩ (.bool t233)).setCell ⟨gb248, 6, none⟩ (.int .i64 t234)).setCell ⟨gb248, 7, none⟩ (.int .i64 t235)).setCell ⟨gb248, 8, none⟩ (.int .i64 t236)).setCell ⟨gb248, 9, none⟩ (.int .i64 t237)).setCell ⟨gb249, 0, none⟩ (.bool t238)).setCell ⟨gb249, 1, none⟩ (.bool t239)).setCell ⟨gb249, 2, none⟩ (.bool t240)).setCell ⟨gb249, 3, none⟩ (.bool t241)).setCell ⟨gb249, 4, none⟩ (.bool t242)).setCell ⟨gb249, 5, none⟩ (.bool t243)).setCell ⟨gb249, 6, none⟩ (.int .i64 t244)).setCell ⟨gb249, 7, none⟩ (.int .i64 t245)).setCell ⟨gb249, 8, none⟩ (.int .i64 t246)).setCell ⟨gb249, 9, none⟩ (.int .i64 t247)) = w25 at n0_ n1_ n2_ n3_ ⊢
   have BK227 := n0_
   have BK248 := n1_
   have BK249 := n2_
   have HB := n3_
   clear n0_ n1_ n2_ n3_
   have n0_ := Aside0.mk (bD_ BK227.out)
   have n1_ := Aside0.mk (bD_ BK248.out)
   have n2_ := Aside0.mk (bD_ BK249.out)
   have n3_ := Aside0.mk (zD_ HB.out)
   clear BK227
   clear BK248
   clear BK249
   clear HB
   have BK227 := n0_
   have BK248 := n1_
   have BK249 := n2_
   have HB := n3_
   clear n0_ n1_ n2_ n3_
   refine start_ (n := 20) (S := fun w' => w'.cell? ⟨gb248, 0, none⟩ = some (.bool t228) ∧ w'.cell? ⟨gb248, 1, none⟩ = some (.bool t229) ∧ w'.cell? ⟨gb248, 2, none⟩ = some (.bool t230) ∧ w'.cell? ⟨gb248, 3, none⟩ = some (.bool t231) ∧ w'.cell? ⟨gb248, 4, none⟩ = some (.bool t232) ∧ w'.cell? ⟨gb248, 5, none⟩ = some (.bool t233) ∧ w'.cell? ⟨gb248, 6, none⟩ = some (.int .i64 t234) ∧ w'.cell? ⟨gb248, 7, none⟩ = some (.int .i64 t235) ∧ w'.cell? ⟨gb248, 8, none⟩ = some (.int .i64 t236) ∧ w'.cell? ⟨gb248, 9, none⟩ = some (.int .i64 t237) ∧ w'.cell? ⟨gb249, 0, none⟩ = some (.bool t238) ∧ w'.cell? ⟨gb249, 1, none⟩ = some (.bool t239) ∧ w'.cell? ⟨gb249, 2, none⟩ = some (.bool t240) ∧ w'.cell? ⟨gb249, 3, none⟩ = some (.bool t241) ∧ w'.cell? ⟨gb249, 4, none⟩ = some (.bool t242) ∧ w'.cell? ⟨gb249, 5, none⟩ = some (.bool t243) ∧ w'.cell? ⟨gb249, 6, none⟩ = some (.int .i64 t244) ∧ w'.cell? ⟨gb249, 7, none⟩ = some (.int .i64 t245) ∧ w'.cell? ⟨gb249, 8, none⟩ = some (.int .i64 t246) ∧ w'.cell? ⟨gb249, 9, none⟩ = some (.int .i64 t247) ∧ w'.cell? ⟨gb227, 0, none⟩ = some (.string a0_0) ∧ w'.cell? ⟨gb227, 1, none⟩ = some (.int .i64 a0_1) ∧ w'.cell? ⟨gb227, 2, none⟩ = some (.int .i64 a0_2) ∧ w'.cell? ⟨gb227, 3, none⟩ = some (.int .i64 a0_3) ∧ w'.cell? ⟨gb227, 4, none⟩ = some (.bool a0_4) ∧ w'.cell? ⟨gb227, 5, none⟩ = some (.bool a0_5) ∧ w'.cell? ⟨gb227, 6, none⟩ = some (.slice A0_6 l0_6.length c0_6)) (ds := []) #[false, false, false, false, false, false, false, false, false, false, false, false, false, false, false, false, false, false, false, false] (by kernel_rfl) rfl rfl ⟨xC_ BK248.out 0, xC_ BK248.out 1, xC_ BK248.out 2, xC_ BK248.out 3, xC_ BK248.out 4, xC_ BK248.out 5, xC_ BK248.out 6, xC_ BK248.out 7, xC_ BK248.out 8, xC_ BK248.out 9, xC_ BK249.out 0, xC_ BK249.out 1, xC_ BK249.out 2, xC_ BK249.out 3, xC_ BK249.out 4, xC_ BK249.out 5, xC_ BK249.out 6, xC_ BK249.out 7, xC_ BK249.out 8, xC_ BK249.out 9, xC_ BK227.out 0, xC_ BK227.out 1, xC_ BK227.out 2, xC_ BK227.out 3, xC_ BK227.out 4, xC_ BK227.out 5, xC_ BK227.out 6⟩ (fun hHeld => ?_); refine with_tabW fresh_Use.tab2 fresh_Use.bits2 (fun HT_ HW_ => ?_)
   generalize w25.drew = w26 at BK227 BK248 BK249 HB hHeld ⊢
   refine pure_ (i := 0) (N := some 20) (v := ?_) (a' := ?_) #[true, false, false, false, false, false, false, false, false, false, false, false, false, false, false, false, false, false, false, false] rfl rfl (any_of HT_.out (by kernel_rfl)) (fun _ _ _ h => h) (Or.inl ⟨by rfl, ?_⟩) ?_ ?_
   rotate_left
   ·
    intro w'
    go_simp
    with_reducible rfl
   rotate_left
   ·
    simp only [Act.put, sA_, sZ_, sS_, i64_w, i32_w]
    rfl
   refine pure_ (i := 1) (N := some 21) (v := ?_) (a' := ?_) #[true, true, false, false, false, false, false, false, false, false, false, false, false, false, false, false, false, false, false, false] rfl rfl (any_of HT_.out (by kernel_rfl)) (fun _ _ _ h => h) (Or.inl ⟨by rfl, ?_⟩) ?_ ?_
   rotate_left
   ·
    intro w'
    go_simp
    with_reducible rfl
   rotate_left
   ·
    simp only [Act.put, sA_, sZ_, sS_, i64_w, i32_w]
    rfl
   refine pure_ (i := 2) (N := some 22) (v := ?_) (a' := ?_) #[true, true, true, false, false, false, false, false, false, false, false, false, false, false, false, false, false, false, false, false] rfl rfl (any_of HT_.out (by kernel_rfl)) (fun _ _ _ h => h) (Or.inl ⟨by rfl, ?_⟩) ?_ ?_
   rotate_left
   ·
    intro w'
    go_simp
    with_reducible rfl
   rotate_left
   ·
    simp only [Act.put, sA_, sZ_, sS_, i64_w, i32_w]
    rfl
   refine one_ (i := 3) (N := some 23) #[true, true, true, true, false, false, false, false, false, false, false, false, false, false, false, false, false, false, false, false] rfl rfl (one_of HT_.out (by kernel_rfl)) (by decide) (fun K hK => ?_)
   refine Kd.R_lit_step (Kd.int .i64) _ 3 ?hg (N := 23) ?hd (xs := ([a3, a4, a5] : List Int)) (inner := [.int .i64 a3, .int .i64 a4, .int .i64 a5]) (ok := fun _ => True) (okp := fun _ => True) ?hr ?hp (fun _ hk => hk) trivial (Below.refl _ _) (Nat.le_refl _) (by simp) ?_; (case hd | hg => rfl); (case hr => exact S1_); (case hp => exact (Reps.one (show Kd.M (Kd.int .i64) _ _ _ a3 [.int .i64 a3] from rfl) (Reps.one (show Kd.M (Kd.int .i64) _ _ _ a4 [.int .i64 a4] from rfl) (Reps.one (show Kd.M (Kd.int .i64) _ _ _ a5 [.int .i64 a5] from rfl) (Reps.none _ _)))))
   intro v251 w27 ho28 hb hg_ hnew_
   clear hg_ hnew_
   (first | rw [← Ny250.out] at ho28 | (simp only [Int.reduceToNat] at ho28; rw [← Ny250.out] at ho28))
   have n0_ := Aside0.mk (Kd.R_lower ho28 (below_size W2_))
   have n1_ := Aside0.mk (blk_below (B1_ BK227.out) hb)
   have n2_ := Aside0.mk (blk_below (B1_ BK248.out) hb)
   have n3_ := Aside0.mk (blk_below (B1_ BK249.out) hb)
   have n4_ := Aside0.mk (below_step W2_ hb)
   clear BK227
   clear BK248
   clear BK249
   clear HB
   have HO252 := n0_
   have BK227 := n1_
   have BK248 := n2_
   have BK249 := n3_
   have HB := n4_
   clear n0_ n1_ n2_ n3_ n4_
   clear hb ho28
   obtain ⟨Ao29, co29, eo29⟩ := Kd.R_slice HO252.out
   (first | subst eo29 | (injection eo29 with f1_ f2_ f3_; have f4_ := f1_.symm; have f5_ := f3_.symm; clear f1_ f2_ f3_; subst f4_; subst f5_))
   refine hK.out _ _ ⟨xC_ BK248.out 0, xC_ BK248.out 1, xC_ BK248.out 2, xC_ BK248.out 3, xC_ BK248.out 4, xC_ BK248.out 5, xC_ BK248.out 6, xC_ BK248.out 7, xC_ BK248.out 8, xC_ BK248.out 9, xC_ BK249.out 0, xC_ BK249.out 1, xC_ BK249.out 2, xC_ BK249.out 3, xC_ BK249.out 4, xC_ BK249.out 5, xC_ BK249.out 6, xC_ BK249.out 7, xC_ BK249.out 8, xC_ BK249.out 9, xC_ BK227.out 0, xC_ BK227.out 1, xC_ BK227.out 2, xC_ BK227.out 3, xC_ BK227.out 4, xC_ BK227.out 5, xC_ BK227.out 6⟩ (fun hHeld => ?_)
   clear hK K
   refine norm_ (a' := ?_) ?_ ?_
   rotate_left
   ·
    show Act.put _ (some 23) _ = _
    simp only [Act.put, sA_, sZ_, sS_, i64_w, i32_w]
    rfl
   refine one_ (i := 4) (N := some 24) #[true, true, true, true, true, false, false, false, false, false, false, false, false, false, false, false, false, false, false, false] rfl rfl (one_of HT_.out (by kernel_rfl)) (by decide) (fun K hK => ?_)
   refine goes_ Tryz.func34 (by kernel_rfl) rfl #[.slice Ao29 y250.length co29] (by rfl) rfl rfl T1_ ?_
   with_reducible refine (fresh_times.calls k _ _ y250 true _ ?side1 ?side2 A20.out).mono ?_
   (case side1 => exact C1_ ((Kd.R_reads' HO252.out).2.2))
   (case side2 => exact (Kd.R_reads' HO252.out).2.1)
   rintro e w' ⟨rfl, ⟨nd, rfl⟩⟩
   refine ⟨_, rfl, ?_⟩
   refine hK.out _ _ ⟨xC_ BK248.out 0, xC_ BK248.out 1, xC_ BK248.out 2, xC_ BK248.out 3, xC_ BK248.out 4, xC_ BK248.out 5, xC_ BK248.out 6, xC_ BK248.out 7, xC_ BK248.out 8, xC_ BK248.out 9, xC_ BK249.out 0, xC_ BK249.out 1, xC_ BK249.out 2, xC_ BK249.out 3, xC_ BK249.out 4, xC_ BK249.out 5, xC_ BK249.out 6, xC_ BK249.out 7, xC_ BK249.out 8, xC_ BK249.out 9, xC_ BK227.out 0, xC_ BK227.out 1, xC_ BK227.out 2, xC_ BK227.out 3, xC_ BK227.out 4, xC_ BK227.out 5, xC_ BK227.out 6⟩ (fun hHeld => ?_)
   clear hK K
   refine norm_ (a' := ?_) ?_ ?_
   rotate_left
   ·
    show Act.put _ (some 24) _ = _
    simp only [Act.put, sA_, sZ_, sS_, i64_w, i32_w]
    rfl
   refine pure_ (i := 5) (N := some 25) (v := ?_) (a' := ?_) #[true, true, true, true, true, true, false, false, false, false, false, false, false, false, false, false, false, false, false, false] rfl rfl (any_of HT_.out (by kernel_rfl)) (fun _ _ _ h => h) (Or.inl ⟨by rfl, ?_⟩) ?_ ?_
   rotate_left
   ·
    intro w'
    go_simp
    with_reducible rfl
   rotate_left
   ·
    simp only [Act.put, sA_, sZ_, sS_, i64_w, i32_w]
    rfl
   refine pure_ (i := 8) (N := some 28) (v := ?_) (a' := ?_) #[true, true, true, true, true, true, false, false, true, false, false, false, false, false, false, false, false, false, false, false] rfl rfl (any_of HT_.out (by kernel_rfl)) (fun _ _ _ h => h) (Or.inl ⟨by rfl, ?_⟩) ?_ ?_
   rotate_left
   ·
    intro w'
    go_simp
    with_reducible rfl
   rotate_left
   ·
    simp only [Act.put, sA_, sZ_, sS_, i64_w, i32_w]
    rfl
   refine pure_ (i := 9) (N := some 29) (v := ?_) (a' := ?_) #[true, true, true, true, true, true, false, false, true, true, false, false, false, false, false, false, false, false, false, false] rfl rfl (any_of HT_.out (by kernel_rfl)) (fun _ _ _ h => h) (Or.inl ⟨by rfl, ?_⟩) ?_ ?_
   rotate_left
   ·
    intro w'
    go_simp
    with_reducible rfl
   rotate_left
   ·
    simp only [Act.put, sA_, sZ_, sS_, i64_w, i32_w]
    rfl
   refine pure_ (i := 10) (N := some 30) (v := ?_) (a' := ?_) #[true, true, true, true, true, true, false, false, true, true, true, false, false, false, false, false, false, false, false, false] rfl rfl (any_of HT_.out (by kernel_rfl)) (fun _ _ _ h => h) (Or.inl ⟨by rfl, ?_⟩) ?_ ?_
   rotate_left
   ·
    intro w'
    go_simp
    with_reducible rfl
   rotate_left
   ·
    simp only [Act.put, sA_, sZ_, sS_, i64_w, i32_w]
    rfl
   refine pure_ (i := 11) (N := some 31) (v := ?_) (a' := ?_) #[true, true, true, true, true, true, false, false, true, true, true, true, false, false, false, false, false, false, false, false] rfl rfl (any_of HT_.out (by kernel_rfl)) (fun _ _ _ h => h) (Or.inl ⟨by rfl, ?_⟩) ?_ ?_
   rotate_left
   ·
    intro w'
    go_simp
    with_reducible rfl
   rotate_left
   ·
    simp only [Act.put, sA_, sZ_, sS_, i64_w, i32_w]
    rfl
   refine pure_ (i := 14) (N := some 34) (v := ?_) (a' := ?_) #[true, true, true, true, true, true, false, false, true, true, true, true, false, false, true, false, false, false, false, false] rfl rfl (any_of HT_.out (by kernel_rfl)) (fun _ _ _ h => h) (Or.inl ⟨by rfl, ?_⟩) ?_ ?_
   rotate_left
   ·
    intro w'
    go_simp
    with_reducible rfl
   rotate_left
   ·
    simp only [Act.put, sA_, sZ_, sS_, i64_w, i32_w]
    rfl
   refine pure_ (i := 15) (N := some 35) (v := ?_) (a' := ?_) #[true, true, true, true, true, true, false, false, true, true, true, true, false, false, true, true, false, false, false, false] rfl rfl (any_of HT_.out (by kernel_rfl)) (fun _ _ _ h => h) (Or.inl ⟨by rfl, ?_⟩) ?_ ?_
   rotate_left
   ·
    intro w'
    go_simp
    with_reducible rfl
   rotate_left
   ·
    simp only [Act.put, sA_, sZ_, sS_, i64_w, i32_w]
    rfl
   refine take_ (i := 6) (N := some 26) (v := ?_) (a' := ?_) #[true, true, true, true, true, true, true, false, true, true, true, true, false, false, true, true, false, false, false, false] rfl rfl (take_ofW HT_.out HW_.out (by kernel_rfl)) (fun _ _ _ h => h) (Or.inl ⟨by rfl, ?_⟩) hHeld ?_ ?_
   rotate_left
   ·
    rintro w' ⟨s0, s1, s2, s3, s4, s5, s6, s7, s8, s9, s10, s11, s12, s13, s14, s15, s16, s17, s18, s19, s20, s21, s22, s23, s24, s25, s26⟩
    go_simp
    with_reducible rfl
   rotate_left
   ·
    simp only [Act.put, sA_, sZ_, sS_, i64_w, i32_w]
    rfl
   refine take_ (i := 7) (N := some 27) (v := ?_) (a' := ?_) #[true, true, true, true, true, true, true, true, true, true, true, true, false, false, true, true, false, false, false, false] rfl rfl (take_ofW HT_.out HW_.out (by kernel_rfl)) (fun _ _ _ h => h) (Or.inl ⟨by rfl, ?_⟩) hHeld ?_ ?_
   rotate_left
   ·
    rintro w' ⟨s0, s1, s2, s3, s4, s5, s6, s7, s8, s9, s10, s11, s12, s13, s14, s15, s16, s17, s18, s19, s20, s21, s22, s23, s24, s25, s26⟩
    go_simp
    with_reducible rfl
   rotate_left
   ·
    simp only [Act.put, sA_, sZ_, sS_, i64_w, i32_w]
    rfl
   refine take_ (i := 13) (N := some 33) (v := ?_) (a' := ?_) #[true, true, true, true, true, true, true, true, true, true, true, true, false, true, true, true, false, false, false, false] rfl rfl (take_ofW HT_.out HW_.out (by kernel_rfl)) (fun _ _ _ h => h) (Or.inl ⟨by rfl, ?_⟩) hHeld ?_ ?_
   rotate_left
   ·
    rintro w' ⟨s0, s1, s2, s3, s4, s5, s6, s7, s8, s9, s10, s11, s12, s13, s14, s15, s16, s17, s18, s19, s20, s21, s22, s23, s24, s25, s26⟩
    go_simp
    with_reducible rfl
   rotate_left
   ·
    simp only [Act.put, sA_, sZ_, sS_, i64_w, i32_w]
    rfl
   refine one_ (i := 12) (N := some 32) #[true, true, true, true, true, true, true, true, true, true, true, true, true, true, true, true, false, false, false, false] rfl rfl (one_of HT_.out (by kernel_rfl)) (by decide) (fun K hK => ?_)
   refine goes_ Tryz.func19 (by kernel_rfl) rfl #[.slice A2 l2.length c2, .int .i64 a3, .int .i64 a4, .int .i64 a5] (by rfl) rfl rfl T1_ ?_
   with_reducible refine (fresh_Age.calls k _ _ l2 a3 a4 a5 t254 _ ?side1 ?side2 ?side3 A22.out).mono ?_
   (case side1 => exact C1_ ((Kd.C_below HR2.out W2_)))
   (case side2 => exact HC2.out)
   (case side3 => exact C1_ ((WF.below HRW.out W2_)))
   rintro e w30 ⟨rfl, hb⟩
   refine ⟨_, rfl, ?_⟩
   have n0_ := Aside0.mk (Kd.R_below (R1_ HO252.out) hb)
   have n1_ := Aside0.mk (blk_below (B1_ BK227.out) hb)
   have n2_ := Aside0.mk (blk_below (B1_ BK248.out) hb)
   have n3_ := Aside0.mk (blk_below (B1_ BK249.out) hb)
   have n4_ := Aside0.mk (below_step W2_ hb)
   clear HO252
   clear BK227
   clear BK248
   clear BK249
   clear HB
   have HO252 := n0_
   have BK227 := n1_
   have BK248 := n2_
   have BK249 := n3_
   have HB := n4_
   clear n0_ n1_ n2_ n3_ n4_
   (try clear hb)
   (try clear hb2)
   (try clear hk)
   (try clear hi)
   refine hK.out _ _ ⟨xC_ BK248.out 0, xC_ BK248.out 1, xC_ BK248.out 2, xC_ BK248.out 3, xC_ BK248.out 4, xC_ BK248.out 5, xC_ BK248.out 6, xC_ BK248.out 7, xC_ BK248.out 8, xC_ BK248.out 9, xC_ BK249.out 0, xC_ BK249.out 1, xC_ BK249.out 2, xC_ BK249.out 3, xC_ BK249.out 4, xC_ BK249.out 5, xC_ BK249.out 6, xC_ BK249.out 7, xC_ BK249.out 8, xC_ BK249.out 9, xC_ BK227.out 0, xC_ BK227.out 1, xC_ BK227.out 2, xC_ BK227.out 3, xC_ BK227.out 4, xC_ BK227.out 5, xC_ BK227.out 6⟩ (fun hHeld => ?_)
   clear hK K
   refine norm_ (a' := ?_) ?_ ?_
   rotate_left
   ·
    show Act.put _ (some 32) _ = _
    simp only [Act.put, sA_, sZ_, sS_, i64_w, i32_w]
    rfl
   refine one_ (i := 16) (N := some 36) #[true, true, true, true, true, true, true, true, true, true, true, true, true, true, true, true, true, false, false, false] rfl rfl (one_of HT_.out (by kernel_rfl)) (by decide) (fun K hK => ?_)
   refine goes_ Tryz.func17 (by kernel_rfl) rfl #[.agg #[.string a0_0, .int .i64 a0_1, .int .i64 a0_2, .int .i64 a0_3, .bool a0_4, .bool a0_5, .slice A0_6 l0_6.length c0_6], .slice A2 l2.length c2, .int .i64 a4] (by rfl) rfl rfl T1_ ?_
   with_reducible refine (fresh_Life.calls k a0_0 a0_1 a0_2 a0_3 a0_4 a0_5 _ _ l0_6 _ _ l2 a4 t255 _ ?side1 ?side2 ?side3 ?side4 ?side5 A23.out).mono ?_
   (case side1 => exact C1_ ((Kd.C_below HR0_6.out HB.out)))
   (case side2 => exact HC0_6.out)
   (case side3 => exact C1_ ((Kd.C_below HR2.out HB.out)))
   (case side4 => exact HC2.out)
   (case side5 => exact C1_ ((WF.below HRW.out HB.out)))
   rintro e w31 ⟨rfl, hb⟩
   refine ⟨_, rfl, ?_⟩
   have n0_ := Aside0.mk (Kd.R_below (R1_ HO252.out) hb)
   have n1_ := Aside0.mk (blk_below (B1_ BK227.out) hb)
   have n2_ := Aside0.mk (blk_below (B1_ BK248.out) hb)
   have n3_ := Aside0.mk (blk_below (B1_ BK249.out) hb)
   have n4_ := Aside0.mk (below_step W2_ hb)
   clear HO252
   clear BK227
   clear BK248
   clear BK249
   clear HB
   have HO252 := n0_
   have BK227 := n1_
   have BK248 := n2_
   have BK249 := n3_
   have HB := n4_
   clear n0_ n1_ n2_ n3_ n4_
   (try clear hb)
   (try clear hb2)
   (try clear hk)
   (try clear hi)
   refine hK.out _ _ ⟨xC_ BK248.out 0, xC_ BK248.out 1, xC_ BK248.out 2, xC_ BK248.out 3, xC_ BK248.out 4, xC_ BK248.out 5, xC_ BK248.out 6, xC_ BK248.out 7, xC_ BK248.out 8, xC_ BK248.out 9, xC_ BK249.out 0, xC_ BK249.out 1, xC_ BK249.out 2, xC_ BK249.out 3, xC_ BK249.out 4, xC_ BK249.out 5, xC_ BK249.out 6, xC_ BK249.out 7, xC_ BK249.out 8, xC_ BK249.out 9, xC_ BK227.out 0, xC_ BK227.out 1, xC_ BK227.out 2, xC_ BK227.out 3, xC_ BK227.out 4, xC_ BK227.out 5, xC_ BK227.out 6⟩ (fun hHeld => ?_)
   clear hK K
   refine norm_ (a' := ?_) ?_ ?_
   rotate_left
   ·
    show Act.put _ (some 36) _ = _
    simp only [Act.put, sA_, sZ_, sS_, i64_w, i32_w]
    rfl
   refine one_ (i := 17) (N := some 37) #[true, true, true, true, true, true, true, true, true, true, true, true, true, true, true, true, true, true, false, false] rfl rfl (one_of HT_.out (by kernel_rfl)) (by decide) (fun K hK => ?_)
   refine goes_ Tryz.func41 (by kernel_rfl) rfl #[.agg #[.bool t228, .bool t229, .bool t230, .bool t231, .bool t232, .bool t233, .int .i64 t234, .int .i64 t235, .int .i64 t236, .int .i64 t237], .agg #[.bool t238, .bool t239, .bool t240, .bool t241, .bool t242, .bool t243, .int .i64 t244, .int .i64 t245, .int .i64 t246, .int .i64 t247], .int .i64 t254, .int .i64 t255] (by rfl) rfl rfl T1_ ?_
   with_reducible refine (fresh_may.calls k t228 t229 t230 t231 t232 t233 t234 t235 t236 t237 t238 t239 t240 t241 t242 t243 t244 t245 t246 t247 t254 t255 t256 _ A24.out).mono ?_
   rintro e w32 ⟨rfl, hb⟩
   refine ⟨_, rfl, ?_⟩
   have n0_ := Aside0.mk (Kd.R_below (R1_ HO252.out) hb)
   have n1_ := Aside0.mk (blk_below (B1_ BK227.out) hb)
   have n2_ := Aside0.mk (blk_below (B1_ BK248.out) hb)
   have n3_ := Aside0.mk (blk_below (B1_ BK249.out) hb)
   have n4_ := Aside0.mk (below_step W2_ hb)
   clear HO252
   clear BK227
   clear BK248
   clear BK249
   clear HB
   have HO252 := n0_
   have BK227 := n1_
   have BK248 := n2_
   have BK249 := n3_
   have HB := n4_
   clear n0_ n1_ n2_ n3_ n4_
   (try clear hb)
   (try clear hb2)
   (try clear hk)
   (try clear hi)
   refine hK.out _ _ ⟨xC_ BK248.out 0, xC_ BK248.out 1, xC_ BK248.out 2, xC_ BK248.out 3, xC_ BK248.out 4, xC_ BK248.out 5, xC_ BK248.out 6, xC_ BK248.out 7, xC_ BK248.out 8, xC_ BK248.out 9, xC_ BK249.out 0, xC_ BK249.out 1, xC_ BK249.out 2, xC_ BK249.out 3, xC_ BK249.out 4, xC_ BK249.out 5, xC_ BK249.out 6, xC_ BK249.out 7, xC_ BK249.out 8, xC_ BK249.out 9, xC_ BK227.out 0, xC_ BK227.out 1, xC_ BK227.out 2, xC_ BK227.out 3, xC_ BK227.out 4, xC_ BK227.out 5, xC_ BK227.out 6⟩ (fun hHeld => ?_)
   clear hK K
   refine norm_ (a' := ?_) ?_ ?_
   rotate_left
   ·
    show Act.put _ (some 37) _ = _
    simp only [Act.put, sA_, sZ_, sS_, i64_w, i32_w]
    rfl
   refine pure_ (i := 18) (N := some 38) (v := ?_) (a' := ?_) #[true, true, true, true, true, true, true, true, true, true, true, true, true, true, true, true, true, true, true, false] rfl rfl (any_of HT_.out (by kernel_rfl)) (fun _ _ _ h => h) (Or.inl ⟨by rfl, ?_⟩) ?_ ?_
   rotate_left
   ·
    intro w'
    go_simp
    with_reducible rfl
   rotate_left
   ·
    simp only [Act.put, sA_, sZ_, sS_, i64_w, i32_w]
    rfl
   refine pure_ (i := 19) (N := some 19) (v := ?_) (a' := ?_) #[true, true, true, true, true, true, true, true, true, true, true, true, true, true, true, true, true, true, true, true] rfl rfl (any_of HT_.out (by kernel_rfl)) (fun _ _ _ h => h) (Or.inl ⟨by rfl, ?_⟩) ?_ ?_
   rotate_left
   ·
    intro w'
    go_simp
    with_reducible rfl
   rotate_left
   ·
    simp only [Act.put, sA_, sZ_, sS_, i64_w, i32_w]
    rfl
   refine done_ (done_of HT_.out (by kernel_rfl)) ?_
   try go_wp2
   go_meet
   case rel => exact ⟨_, (t256), E3_, H', ⟨by first | omega | exact Nat.le_refl _⟩, ⟨B1_ BK227.out⟩, ⟨B1_ BK248.out⟩, ⟨B1_ BK249.out⟩, ⟨W2_⟩⟩
  ·
   replace c21 := Bool.eq_false_iff.mpr c21
   subst c21
   rw [if_neg (show ¬ (false = true) by decide)] at H
   have H' := Aside0.mk H
   clear H
   try go_wp2
   have n0_ : Aside0 (((((((((((((((((((((w14.setCell ⟨gb248, 0, none⟩ (.bool t228)).setCell ⟨gb248, 1, none⟩ (.bool t229)).setCell ⟨gb248, 2, none⟩ (.bool t230)).setCell ⟨gb248, 3, none⟩ (.bool t231)).setCell ⟨gb248, 4, none⟩ (.bool t232)).setCell ⟨gb248, 5, none⟩ (.bool t233)).setCell ⟨gb248, 6, none⟩ (.int .i64 t234)).setCell ⟨gb248, 7, none⟩ (.int .i64 t235)).setCell ⟨gb248, 8, none⟩ (.int .i64 t236)).setCell ⟨gb248, 9, none⟩ (.int .i64 t237)).setCell ⟨gb249, 0, none⟩ (.bool t238)).setCell ⟨gb249, 1, none⟩ (.bool t239)).setCell ⟨gb249, 2, none⟩ (.bool t240)).setCell ⟨gb249, 3, none⟩ (.bool t241)).setCell ⟨gb249, 4, none⟩ (.bool t242)).setCell ⟨gb249, 5, none⟩ (.bool t243)).setCell ⟨gb249, 6, none⟩ (.int .i64 t244)).setCell ⟨gb249, 7, none⟩ (.int .i64 t245)).setCell ⟨gb249, 8, none⟩ (.int .i64 t246)).setCell ⟨gb249, 9, none⟩ (.int .i64 t247)).heap[gb227]? = some (.cells #[.string a0_0, .int .i64 a0_1, .int .i64 a0_2, .int .i64 a0_3, .bool a0_4, .bool a0_5, .slice A0_6 l0_6.length c0_6] 24 (0, 0))) := ⟨G1_ BK227.out⟩
   have n1_ : Aside0 (((((((((((((((((((((w14.setCell ⟨gb248, 0, none⟩ (.bool t228)).setCell ⟨gb248, 1, none⟩ (.bool t229)).setCell ⟨gb248, 2, none⟩ (.bool t230)).setCell ⟨gb248, 3, none⟩ (.bool t231)).setCell ⟨gb248, 4, none⟩ (.bool t232)).setCell ⟨gb248, 5, none⟩ (.bool t233)).setCell ⟨gb248, 6, none⟩ (.int .i64 t234)).setCell ⟨gb248, 7, none⟩ (.int .i64 t235)).setCell ⟨gb248, 8, none⟩ (.int .i64 t236)).setCell ⟨gb248, 9, none⟩ (.int .i64 t237)).setCell ⟨gb249, 0, none⟩ (.bool t238)).setCell ⟨gb249, 1, none⟩ (.bool t239)).setCell ⟨gb249, 2, none⟩ (.bool t240)).setCell ⟨gb249, 3, none⟩ (.bool t241)).setCell ⟨gb249, 4, none⟩ (.bool t242)).setCell ⟨gb249, 5, none⟩ (.bool t243)).setCell ⟨gb249, 6, none⟩ (.int .i64 t244)).setCell ⟨gb249, 7, none⟩ (.int .i64 t245)).setCell ⟨gb249, 8, none⟩ (.int .i64 t246)).setCell ⟨gb249, 9, none⟩ (.int .i64 t247)).heap[gb248]? = some (.cells #[.bool t228, .bool t229, .bool t230, .bool t231, .bool t232, .bool t233, .int .i64 t234, .int .i64 t235, .int .i64 t236, .int .i64 t237] 57 (0, 0))) := ⟨G1_ BK248.out⟩
   have n2_ : Aside0 (((((((((((((((((((((w14.setCell ⟨gb248, 0, none⟩ (.bool t228)).setCell ⟨gb248, 1, none⟩ (.bool t229)).setCell ⟨gb248, 2, none⟩ (.bool t230)).setCell ⟨gb248, 3, none⟩ (.bool t231)).setCell ⟨gb248, 4, none⟩ (.bool t232)).setCell ⟨gb248, 5, none⟩ (.bool t233)).setCell ⟨gb248, 6, none⟩ (.int .i64 t234)).setCell ⟨gb248, 7, none⟩ (.int .i64 t235)).setCell ⟨gb248, 8, none⟩ (.int .i64 t236)).setCell ⟨gb248, 9, none⟩ (.int .i64 t237)).setCell ⟨gb249, 0, none⟩ (.bool t238)).setCell ⟨gb249, 1, none⟩ (.bool t239)).setCell ⟨gb249, 2, none⟩ (.bool t240)).setCell ⟨gb249, 3, none⟩ (.bool t241)).setCell ⟨gb249, 4, none⟩ (.bool t242)).setCell ⟨gb249, 5, none⟩ (.bool t243)).setCell ⟨gb249, 6, none⟩ (.int .i64 t244)).setCell ⟨gb249, 7, none⟩ (.int .i64 t245)).setCell ⟨gb249, 8, none⟩ (.int .i64 t246)).setCell ⟨gb249, 9, none⟩ (.int .i64 t247)).heap[gb249]? = some (.cells #[.bool t238, .bool t239, .bool t240, .bool t241, .bool t242, .bool t243, .int .i64 t244, .int .i64 t245, .int .i64 t246, .int .i64 t247] 57 (0, 0))) := ⟨G1_ BK249.out⟩
   have n3_ : Aside0 (Below w.heap.size w ((((((((((((((((((((w14.setCell ⟨gb248, 0, none⟩ (.bool t228)).setCell ⟨gb248, 1, none⟩ (.bool t229)).setCell ⟨gb248, 2, none⟩ (.bool t230)).setCell ⟨gb248, 3, none⟩ (.bool t231)).setCell ⟨gb248, 4, none⟩ (.bool t232)).setCell ⟨gb248, 5, none⟩ (.bool t233)).setCell ⟨gb248, 6, none⟩ (.int .i64 t234)).setCell ⟨gb248, 7, none⟩ (.int .i64 t235)).setCell ⟨gb248, 8, none⟩ (.int .i64 t236)).setCell ⟨gb248, 9, none⟩ (.int .i64 t237)).setCell ⟨gb249, 0, none⟩ (.bool t238)).setCell ⟨gb249, 1, none⟩ (.bool t239)).setCell ⟨gb249, 2, none⟩ (.bool t240)).setCell ⟨gb249, 3, none⟩ (.bool t241)).setCell ⟨gb249, 4, none⟩ (.bool t242)).setCell ⟨gb249, 5, none⟩ (.bool t243)).setCell ⟨gb249, 6, none⟩ (.int .i64 t244)).setCell ⟨gb249, 7, none⟩ (.int .i64 t245)).setCell ⟨gb249, 8, none⟩ (.int .i64 t246)).setCell ⟨gb249, 9, none⟩ (.int .i64 t247))) := ⟨W2_⟩
   (try clear BK227)
   (try clear BK248)
   (try clear BK249)
   (try clear HB)
   generalize ((((((((((((((((((((w14.setCell ⟨gb248, 0, none⟩ (.bool t228)).setCell ⟨gb248, 1, none⟩ (.bool t229)).setCell ⟨gb248, 2, none⟩ (.bool t230)).setCell ⟨gb248, 3, none⟩ (.bool t231)).setCell ⟨gb248, 4, none⟩ (.bool t232)).setCell ⟨gb248, 5, none⟩ (.bool t233)).setCell ⟨gb248, 6, none⟩ (.int .i64 t234)).setCell ⟨gb248, 7, none⟩ (.int .i64 t235)).setCell ⟨gb248, 8, none⟩ (.int .i64 t236)).setCell ⟨gb248, 9, none⟩ (.int .i64 t237)).setCell ⟨gb249, 0, none⟩ (.bool t238)).setCell ⟨gb249, 1, none⟩ (.bool t239)).setCell ⟨gb249, 2, none⟩ (.bool t240)).setCell ⟨gb249, 3, none⟩ (.bool t241)).setCell ⟨gb249, 4, none⟩ (.bool t242)).setCell ⟨gb249, 5, none⟩ (.bool t243)).setCell ⟨gb249, 6, none⟩ (.int .i64 t244)).setCell ⟨gb249, 7, none⟩ (.int .i64 t245)).setCell ⟨gb249, 8, none⟩ (.int .i64 t246)).setCell ⟨gb249, 9, none⟩ (.int .i64 t247)) = w33 at n0_ n1_ n2_ n3_ ⊢
   have BK227 := n0_
   have BK248 := n1_
   have BK249 := n2_
   have HB := n3_
   clear n0_ n1_ n2_ n3_
   have n0_ := Aside0.mk (bD_ BK227.out)
   have n1_ := Aside0.mk (bD_ BK248.out)
   have n2_ := Aside0.mk (bD_ BK249.out)
   have n3_ := Aside0.mk (zD_ HB.out)
   clear BK227
   clear BK248
   clear BK249
   clear HB
   have BK227 := n0_
   have BK248 := n1_
   have BK249 := n2_
   have HB := n3_
   clear n0_ n1_ n2_ n3_
   refine start_ (n := 20) (S := fun w' => True) (ds := []) #[false, false, false, false, false, false, false, false, false, false, false, false, false, false, false, false, false, false, false, false] (by kernel_rfl) rfl rfl trivial (fun hHeld => ?_); refine with_tabW fresh_Use.tab2 fresh_Use.bits2 (fun HT_ HW_ => ?_)
   generalize w33.drew = w34 at BK227 BK248 BK249 HB hHeld ⊢
   refine pure_ (i := 0) (N := some 20) (v := ?_) (a' := ?_) #[true, false, false, false, false, false, false, false, false, false, false, false, false, false, false, false, false, false, false, false] rfl rfl (any_of HT_.out (by kernel_rfl)) (fun _ _ _ h => h) (Or.inl ⟨by rfl, ?_⟩) ?_ ?_
   rotate_left
   ·
    intro w'
    go_simp
    with_reducible rfl
   rotate_left
   ·
    simp only [Act.put, sA_, sZ_, sS_, i64_w, i32_w]
    rfl
   refine pure_ (i := 1) (N := some 21) (v := ?_) (a' := ?_) #[true, true, false, false, false, false, false, false, false, false, false, false, false, false, false, false, false, false, false, false] rfl rfl (any_of HT_.out (by kernel_rfl)) (fun _ _ _ h => h) (Or.inl ⟨by rfl, ?_⟩) ?_ ?_
   rotate_left
   ·
    intro w'
    go_simp
    with_reducible rfl
   rotate_left
   ·
    simp only [Act.put, sA_, sZ_, sS_, i64_w, i32_w]
    rfl
   refine pure_ (i := 2) (N := some 22) (v := ?_) (a' := ?_) #[true, true, true, false, false, false, false, false, false, false, false, false, false, false, false, false, false, false, false, false] rfl rfl (any_of HT_.out (by kernel_rfl)) (fun _ _ _ h => h) (Or.inl ⟨by rfl, ?_⟩) ?_ ?_
   rotate_left
   ·
    intro w'
    go_simp
    with_reducible rfl
   rotate_left
   ·
    simp only [Act.put, sA_, sZ_, sS_, i64_w, i32_w]
    rfl
   refine one_ (i := 3) (N := some 23) #[true, true, true, true, false, false, false, false, false, false, false, false, false, false, false, false, false, false, false, false] rfl rfl (one_of HT_.out (by kernel_rfl)) (by decide) (fun K hK => ?_)
   refine Kd.R_lit_step (Kd.int .i64) _ 3 ?hg (N := 23) ?hd (xs := ([a3, a4, a5] : List Int)) (inner := [.int .i64 a3, .int .i64 a4, .int .i64 a5]) (ok := fun _ => True) (okp := fun _ => True) ?hr ?hp (fun _ hk => hk) trivial (Below.refl _ _) (Nat.le_refl _) (by simp) ?_; (case hd | hg => rfl); (case hr => exact S1_); (case hp => exact (Reps.one (show Kd.M (Kd.int .i64) _ _ _ a3 [.int .i64 a3] from rfl) (Reps.one (show Kd.M (Kd.int .i64) _ _ _ a4 [.int .i64 a4] from rfl) (Reps.one (show Kd.M (Kd.int .i64) _ _ _ a5 [.int .i64 a5] from rfl) (Reps.none _ _)))))
   intro v251 w35 ho36 hb hg_ hnew_
   clear hg_ hnew_
   (first | rw [← Ny250.out] at ho36 | (simp only [Int.reduceToNat] at ho36; rw [← Ny250.out] at ho36))
   have n0_ := Aside0.mk (Kd.R_lower ho36 (below_size W2_))
   have n1_ := Aside0.mk (blk_below (B1_ BK227.out) hb)
   have n2_ := Aside0.mk (blk_below (B1_ BK248.out) hb)
   have n3_ := Aside0.mk (blk_below (B1_ BK249.out) hb)
   have n4_ := Aside0.mk (below_step W2_ hb)
   clear BK227
   clear BK248
   clear BK249
   clear HB
   have HO252 := n0_
   have BK227 := n1_
   have BK248 := n2_
   have BK249 := n3_
   have HB := n4_
   clear n0_ n1_ n2_ n3_ n4_
   clear hb ho36
   obtain ⟨Ao37, co37, eo37⟩ := Kd.R_slice HO252.out
   (first | subst eo37 | (injection eo37 with f1_ f2_ f3_; have f4_ := f1_.symm; have f5_ := f3_.symm; clear f1_ f2_ f3_; subst f4_; subst f5_))
   refine hK.out _ _ trivial (fun hHeld => ?_)
   clear hK K
   refine norm_ (a' := ?_) ?_ ?_
   rotate_left
   ·
    show Act.put _ (some 23) _ = _
    simp only [Act.put, sA_, sZ_, sS_, i64_w, i32_w]
    rfl
   refine one_ (i := 4) (N := some 24) #[true, true, true, true, true, false, false, false, false, false, false, false, false, false, false, false, false, false, false, false] rfl rfl (one_of HT_.out (by kernel_rfl)) (by decide) (fun K hK => ?_)
   refine goes_ Tryz.func34 (by kernel_rfl) rfl #[.slice Ao37 y250.length co37] (by rfl) rfl rfl T1_ ?_
   with_reducible refine (fresh_times.calls k _ _ y250 false _ ?side1 ?side2 A20.out).mono ?_
   (case side1 => exact C1_ ((Kd.R_reads' HO252.out).2.2))
   (case side2 => exact (Kd.R_reads' HO252.out).2.1)
   rintro e w' ⟨rfl, ⟨nd, rfl⟩⟩
   refine ⟨_, rfl, ?_⟩
   refine hK.out _ _ trivial (fun hHeld => ?_)
   clear hK K
   refine norm_ (a' := ?_) ?_ ?_
   rotate_left
   ·
    show Act.put _ (some 24) _ = _
    simp only [Act.put, sA_, sZ_, sS_, i64_w, i32_w]
    rfl
   refine pure_ (i := 5) (N := some 25) (v := ?_) (a' := ?_) #[true, true, true, true, true, true, false, false, false, false, false, false, false, false, false, false, false, false, false, false] rfl rfl (any_of HT_.out (by kernel_rfl)) (fun _ _ _ h => h) (Or.inl ⟨by rfl, ?_⟩) ?_ ?_
   rotate_left
   ·
    intro w'
    go_simp
    with_reducible rfl
   rotate_left
   ·
    simp only [Act.put, sA_, sZ_, sS_, i64_w, i32_w]
    rfl
   refine pure_ (i := 6) (N := some 26) (v := undef) (a' := ?_) #[true, true, true, true, true, true, true, false, false, false, false, false, false, false, false, false, false, false, false, false] rfl rfl (any_of HT_.out (by kernel_rfl)) (fun _ _ _ h => h) (Or.inr ⟨by rfl, rfl⟩) ?_ ?_
   rotate_left
   ·
    simp only [Act.put, sA_, sZ_, sS_, i64_w, i32_w]
    rfl
   refine pure_ (i := 7) (N := some 27) (v := undef) (a' := ?_) #[true, true, true, true, true, true, true, true, false, false, false, false, false, false, false, false, false, false, false, false] rfl rfl (any_of HT_.out (by kernel_rfl)) (fun _ _ _ h => h) (Or.inr ⟨by rfl, rfl⟩) ?_ ?_
   rotate_left
   ·
    simp only [Act.put, sA_, sZ_, sS_, i64_w, i32_w]
    rfl
   refine pure_ (i := 8) (N := some 28) (v := undef) (a' := ?_) #[true, true, true, true, true, true, true, true, true, false, false, false, false, false, false, false, false, false, false, false] rfl rfl (any_of HT_.out (by kernel_rfl)) (fun _ _ _ h => h) (Or.inr ⟨by rfl, rfl⟩) ?_ ?_
   rotate_left
   ·
    simp only [Act.put, sA_, sZ_, sS_, i64_w, i32_w]
    rfl
   refine pure_ (i := 9) (N := some 29) (v := undef) (a' := ?_) #[true, true, true, true, true, true, true, true, true, true, false, false, false, false, false, false, false, false, false, false] rfl rfl (any_of HT_.out (by kernel_rfl)) (fun _ _ _ h => h) (Or.inr ⟨by rfl, rfl⟩) ?_ ?_
   rotate_left
   ·
    simp only [Act.put, sA_, sZ_, sS_, i64_w, i32_w]
    rfl
   refine pure_ (i := 10) (N := some 30) (v := undef) (a' := ?_) #[true, true, true, true, true, true, true, true, true, true, true, false, false, false, false, false, false, false, false, false] rfl rfl (any_of HT_.out (by kernel_rfl)) (fun _ _ _ h => h) (Or.inr ⟨by rfl, rfl⟩) ?_ ?_
   rotate_left
   ·
    simp only [Act.put, sA_, sZ_, sS_, i64_w, i32_w]
    rfl
   refine pure_ (i := 11) (N := some 31) (v := undef) (a' := ?_) #[true, true, true, true, true, true, true, true, true, true, true, true, false, false, false, false, false, false, false, false] rfl rfl (any_of HT_.out (by kernel_rfl)) (fun _ _ _ h => h) (Or.inr ⟨by rfl, rfl⟩) ?_ ?_
   rotate_left
   ·
    simp only [Act.put, sA_, sZ_, sS_, i64_w, i32_w]
    rfl
   refine pure_ (i := 12) (N := some 32) (v := undef) (a' := ?_) #[true, true, true, true, true, true, true, true, true, true, true, true, true, false, false, false, false, false, false, false] rfl rfl (any_of HT_.out (by kernel_rfl)) (fun _ _ _ h => h) (Or.inr ⟨by rfl, rfl⟩) ?_ ?_
   rotate_left
   ·
    simp only [Act.put, sA_, sZ_, sS_, i64_w, i32_w]
    rfl
   refine pure_ (i := 13) (N := some 33) (v := undef) (a' := ?_) #[true, true, true, true, true, true, true, true, true, true, true, true, true, true, false, false, false, false, false, false] rfl rfl (any_of HT_.out (by kernel_rfl)) (fun _ _ _ h => h) (Or.inr ⟨by rfl, rfl⟩) ?_ ?_
   rotate_left
   ·
    simp only [Act.put, sA_, sZ_, sS_, i64_w, i32_w]
    rfl
   refine pure_ (i := 14) (N := some 34) (v := undef) (a' := ?_) #[true, true, true, true, true, true, true, true, true, true, true, true, true, true, true, false, false, false, false, false] rfl rfl (any_of HT_.out (by kernel_rfl)) (fun _ _ _ h => h) (Or.inr ⟨by rfl, rfl⟩) ?_ ?_
   rotate_left
   ·
    simp only [Act.put, sA_, sZ_, sS_, i64_w, i32_w]
    rfl
   refine pure_ (i := 15) (N := some 35) (v := undef) (a' := ?_) #[true, true, true, true, true, true, true, true, true, true, true, true, true, true, true, true, false, false, false, false] rfl rfl (any_of HT_.out (by kernel_rfl)) (fun _ _ _ h => h) (Or.inr ⟨by rfl, rfl⟩) ?_ ?_
   rotate_left
   ·
    simp only [Act.put, sA_, sZ_, sS_, i64_w, i32_w]
    rfl
   refine pure_ (i := 16) (N := some 36) (v := undef) (a' := ?_) #[true, true, true, true, true, true, true, true, true, true, true, true, true, true, true, true, true, false, false, false] rfl rfl (any_of HT_.out (by kernel_rfl)) (fun _ _ _ h => h) (Or.inr ⟨by rfl, rfl⟩) ?_ ?_
   rotate_left
   ·
    simp only [Act.put, sA_, sZ_, sS_, i64_w, i32_w]
    rfl
   refine pure_ (i := 17) (N := some 37) (v := undef) (a' := ?_) #[true, true, true, true, true, true, true, true, true, true, true, true, true, true, true, true, true, true, false, false] rfl rfl (any_of HT_.out (by kernel_rfl)) (fun _ _ _ h => h) (Or.inr ⟨by rfl, rfl⟩) ?_ ?_
   rotate_left
   ·
    simp only [Act.put, sA_, sZ_, sS_, i64_w, i32_w]
    rfl
   refine pure_ (i := 18) (N := some 38) (v := ?_) (a' := ?_) #[true, true, true, true, true, true, true, true, true, true, true, true, true, true, true, true, true, true, true, false] rfl rfl (any_of HT_.out (by kernel_rfl)) (fun _ _ _ h => h) (Or.inl ⟨by rfl, ?_⟩) ?_ ?_
   rotate_left
   ·
    intro w'
    go_simp
    with_reducible rfl
   rotate_left
   ·
    simp only [Act.put, sA_, sZ_, sS_, i64_w, i32_w]
    rfl
   refine pure_ (i := 19) (N := some 19) (v := ?_) (a' := ?_) #[true, true, true, true, true, true, true, true, true, true, true, true, true, true, true, true, true, true, true, true] rfl rfl (any_of HT_.out (by kernel_rfl)) (fun _ _ _ h => h) (Or.inl ⟨by rfl, ?_⟩) ?_ ?_
   rotate_left
   ·
    intro w'
    go_simp
    with_reducible rfl
   rotate_left
   ·
    simp only [Act.put, sA_, sZ_, sS_, i64_w, i32_w]
    rfl
   refine done_ (done_of HT_.out (by kernel_rfl)) ?_
   try go_wp2
   go_meet
   case rel => exact ⟨_, (false), E3_, H', ⟨by first | omega | exact Nat.le_refl _⟩, ⟨B1_ BK227.out⟩, ⟨B1_ BK248.out⟩, ⟨B1_ BK249.out⟩, ⟨W2_⟩⟩
 case rest =>
  clear HC9
  (try clear c1); (try clear c2); (try clear c21); (try clear z17_0 z17_1 z17_2 z17_3 z17_4 z17_5 z17_6 z17_7 z17_8 z17_9 y17_0 y17_1 y17_2 y17_3 y17_4 y17_5 y17_6 y17_7 y17_8 y17_9); (try clear z19_0 z19_1 z19_2 z19_3 z19_4 z19_5 z19_6 z19_7 z19_8 z19_9 y19_0 y19_1 y19_2 y19_3 y19_4 y19_5 y19_6 y19_7 y19_8 y19_9)
  obtain ⟨kq, x19_8, rfl, HA, HJ8, BK227, BK248, BK249, HB⟩ := hcut
  cases kq with
  | zero => exact absurd HA.out (by simp [fresh_Use.j0])
  | succ kj8 =>
   have H := HA.out
   clear HA
   simp only [fresh_Use.j0] at H
   by_cases c38 : x19_8 = true
   ·
    subst c38
    rw [if_pos rfl] at H
    obtain rfl := Option.some.inj H
    go_wp2
    go_ret
    exact ⟨E1_, W2_⟩
   ·
    replace c38 := Bool.eq_false_iff.mpr c38
    subst c38
    rw [if_neg (show ¬ (false = true) by decide)] at H
    by_cases c39 : t233 = true
    ·
     subst c39
     rw [if_pos rfl] at H
     obtain rfl := Option.some.inj H
     have hnb40 := NB248_227.out
     have hnc40 := NB227_248.out
     have hnb41 := NB248_249.out
     have hnc41 := NB249_248.out
     obtain ⟨z42_0, z42_1, z42_2, z42_3, z42_4, z42_5, z42_6, z42_7, z42_8, z42_9, y42_0, y42_1, y42_2, y42_3, y42_4, y42_5, y42_6, y42_7, y42_8, y42_9⟩ := cz10_ BK248.out
     go_wp2
     go_ret
     exact ⟨E1_, W2_⟩
    ·
     replace c39 := Bool.eq_false_iff.mpr c39
     subst c39
     rw [if_neg (show ¬ (false = true) by decide)] at H
     obtain rfl := Option.some.inj H
     have hnb43 := NB248_227.out
     have hnc43 := NB227_248.out
     have hnb44 := NB248_249.out
     have hnc44 := NB249_248.out
     obtain ⟨z45_0, z45_1, z45_2, z45_3, z45_4, z45_5, z45_6, z45_7, z45_8, z45_9, y45_0, y45_1, y45_2, y45_3, y45_4, y45_5, y45_6, y45_7, y45_8, y45_9⟩ := cz10_ BK248.out
     go_wp2
     go_ret
     exact ⟨E1_, W2_⟩

/-! ### pantrylaw12_anchor: function 10 -/
def pantrylaw12_anchor.f (k : Nat)  : Option (Bool) := (some (([(⟨(⟨#[67, 97, 99, 104, 101, 45, 67, 111, 110, 116, 114, 111, 108]⟩ : ByteArray), (⟨#[109, 97, 120, 45, 97, 103, 101, 61, 54, 48]⟩ : ByteArray)⟩ : S46)] : List (S46)) : List (S46))).bind fun y258 => ((fresh_Use.f k (⟨#[]⟩ : ByteArray) 0 0 3600 false true ([] : List ByteArray) ([] : List (S46)) y258 100 100 110).bind fun t261 => (if t261 = 0 then ((fresh_Use.f k (⟨#[]⟩ : ByteArray) 0 0 3600 false true ([] : List ByteArray) ([] : List (S46)) y258 100 100 160).bind fun t262 => (if t262 = 1 then ((fresh_Kept.f k (⟨#[]⟩ : ByteArray) 0 0 3600 false true ([] : List ByteArray) (⟨#[71, 69, 84]⟩ : ByteArray) ([] : List (S46)) 200 y258).bind fun t263 => (if t263 = true then ((fresh_Life.f k (⟨#[]⟩ : ByteArray) 0 0 3600 false true ([] : List ByteArray) y258 100).bind fun t264 => (some (t264 == 60))) else (none))) else (none))) else (none)))
theorem pantrylaw12_anchor.mono : ∀ k, LeO (pantrylaw12_anchor.f k ) (pantrylaw12_anchor.f (k + 1) ) := by
 intro  k
 unfold pantrylaw12_anchor.f
 repeat' (with_reducible first | exact fresh_Kept.mono _ _ _ _ _ _ _ _ _ _ _ _ | exact fresh_Life.mono _ _ _ _ _ _ _ _ _ _ | exact fresh_Use.mono _ _ _ _ _ _ _ _ _ _ _ _ _ | exact lR_ | refine LeO.ite ?_ ?_ | refine LeO.bind ?_ (fun _ => ?_))
set_option maxHeartbeats 8000000 in
set_option maxRecDepth 100000 in
theorem pantrylaw12_anchor.calls (k : Nat)  (r : Bool) (w : World) (hrW : WF w) (h : pantrylaw12_anchor.f k  = some r) :
  Calls Tryz.prog 10 #[] w fun e w' => e = .returned (.bool r) ∧ Below w.heap.size w w' := by
 have hu24 := Tryz.underlying24
 have hu46 := Tryz.underlying46
 have HRW := Aside0.mk hrW
 clear hrW
 have HB := Aside0.mk (Below.refl w.heap.size w)
 have H : ((some (([(⟨(⟨#[67, 97, 99, 104, 101, 45, 67, 111, 110, 116, 114, 111, 108]⟩ : ByteArray), (⟨#[109, 97, 120, 45, 97, 103, 101, 61, 54, 48]⟩ : ByteArray)⟩ : S46)] : List (S46)) : List (S46))).bind fun y258 => ((fresh_Use.f k (⟨#[]⟩ : ByteArray) 0 0 3600 false true ([] : List ByteArray) ([] : List (S46)) y258 100 100 110).bind fun t261 => (if t261 = 0 then ((fresh_Use.f k (⟨#[]⟩ : ByteArray) 0 0 3600 false true ([] : List ByteArray) ([] : List (S46)) y258 100 100 160).bind fun t262 => (if t262 = 1 then ((fresh_Kept.f k (⟨#[]⟩ : ByteArray) 0 0 3600 false true ([] : List ByteArray) (⟨#[71, 69, 84]⟩ : ByteArray) ([] : List (S46)) 200 y258).bind fun t263 => (if t263 = true then ((fresh_Life.f k (⟨#[]⟩ : ByteArray) 0 0 3600 false true ([] : List ByteArray) y258 100).bind fun t264 => (some (t264 == 60))) else (none))) else (none))) else (none)))) = some r := h
 clear h
 obtain ⟨y258, hy258⟩ : ∃ y_ : List (S46), y_ = (([(⟨(⟨#[67, 97, 99, 104, 101, 45, 67, 111, 110, 116, 114, 111, 108]⟩ : ByteArray), (⟨#[109, 97, 120, 45, 97, 103, 101, 61, 54, 48]⟩ : ByteArray)⟩ : S46)] : List (S46))) := ⟨_, rfl⟩
 replace H : ((fresh_Use.f k (⟨#[]⟩ : ByteArray) 0 0 3600 false true ([] : List ByteArray) ([] : List (S46)) y258 100 100 110).bind fun t261 => (if t261 = 0 then ((fresh_Use.f k (⟨#[]⟩ : ByteArray) 0 0 3600 false true ([] : List ByteArray) ([] : List (S46)) y258 100 100 160).bind fun t262 => (if t262 = 1 then ((fresh_Kept.f k (⟨#[]⟩ : ByteArray) 0 0 3600 false true ([] : List ByteArray) (⟨#[71, 69, 84]⟩ : ByteArray) ([] : List (S46)) 200 y258).bind fun t263 => (if t263 = true then ((fresh_Life.f k (⟨#[]⟩ : ByteArray) 0 0 3600 false true ([] : List ByteArray) y258 100).bind fun t264 => (some (t264 == 60))) else (none))) else (none))) else (none))) = some r := by first | (rw [hy258]; with_reducible exact H) | (have H2_ := (Option.bind_some _ _).symm.trans H; rw [hy258]; with_reducible exact H2_) | (have H2_ := (Option.bind_some _ _).symm.trans H; with_reducible exact H2_) | with_reducible exact H | (rw [hy258]; exact H) | exact H
 have Ny258 := Aside0.mk hy258
 clear hy258
 obtain ⟨t261, A1, H⟩ := bS_ H
 try dsimp only at H
 by_cases c2 : t261 = 0
 ·
  rw [if_pos c2] at H
  have c2b0 : (t261 == 0) = true := beq_iff_eq.mpr c2
  have c2b1 : (t261 != 0) = false := bne_eq_false_iff_eq.mpr c2
  clear c2
  obtain ⟨t262, A3, H⟩ := bS_ H
  try dsimp only at H
  by_cases c4 : t262 = 1
  ·
   rw [if_pos c4] at H
   have c4b0 : (t262 == 1) = true := beq_iff_eq.mpr c4
   have c4b1 : (t262 != 1) = false := bne_eq_false_iff_eq.mpr c4
   clear c4
   obtain ⟨t263, A5, H⟩ := bS_ H
   try dsimp only at H
   by_cases c6 : t263 = true
   ·
    subst c6
    rw [if_pos rfl] at H
    obtain ⟨t264, A7, H⟩ := bS_ H
    try dsimp only at H
    obtain rfl := Option.some.inj H
    go_enter Tryz.func10, Tryz.ntmps10
    go_wp2_with (first | ((with_reducible refine gate_dst (N := 1) rfl ?_); refine box_event ?hg (N := 1) ?hd (cs := #[.string (⟨#[]⟩ : ByteArray), .int .i64 0, .int .i64 0, .int .i64 0, .bool false, .bool false, .slice none 0 0]) (t := 24) ?hr ?_; (case hd | hg => rfl); (case hr => exact S1_); intro gb257 hg w8 hbox hb; have BK257 := Aside0.mk (hbox); have GW257 := Aside0.mk ((Z1_ : w.heap.size ≤ gb257)); have GE257 := Aside0.mk ((Z1_ : w.heap.size ≤ gb257)); replace HB := y1_ hb; clear hb hbox hg; obtain ⟨z9_0, z9_1, z9_2, z9_3, z9_4, z9_5, z9_6, y9_0, y9_1, y9_2, y9_3, y9_4, y9_5, y9_6⟩ := cz7_ BK257.out) | ((with_reducible refine gate_dst (N := 5) rfl ?_); refine Kd.R_lit k46 _ 46 ?hg (N := 5) ?hd (xs := ([(⟨(⟨#[67, 97, 99, 104, 101, 45, 67, 111, 110, 116, 114, 111, 108]⟩ : ByteArray), (⟨#[109, 97, 120, 45, 97, 103, 101, 61, 54, 48]⟩ : ByteArray)⟩ : S46)] : List (S46))) (inner := [.string (⟨#[67, 97, 99, 104, 101, 45, 67, 111, 110, 116, 114, 111, 108]⟩ : ByteArray), .string (⟨#[109, 97, 120, 45, 97, 103, 101, 61, 54, 48]⟩ : ByteArray)]) (ok := fun _ => True) (okp := fun _ => True) ?hr ?hp (fun _ hk => hk) trivial (Below.refl _ _) (Nat.le_refl _) (by simp) ?_; (case hd | hg => rfl); (case hr => exact S1_); (case hp => exact (Reps.c2 (show Kd.M k46 _ _ _ (⟨(⟨#[67, 97, 99, 104, 101, 45, 67, 111, 110, 116, 114, 111, 108]⟩ : ByteArray), (⟨#[109, 97, 120, 45, 97, 103, 101, 61, 54, 48]⟩ : ByteArray)⟩ : S46) [.string (⟨#[67, 97, 99, 104, 101, 45, 67, 111, 110, 116, 114, 111, 108]⟩ : ByteArray), .string (⟨#[109, 97, 120, 45, 97, 103, 101, 61, 54, 48]⟩ : ByteArray)] from (k46_mkM _ _ _ (⟨(⟨#[67, 97, 99, 104, 101, 45, 67, 111, 110, 116, 114, 111, 108]⟩ : ByteArray), (⟨#[109, 97, 120, 45, 97, 103, 101, 61, 54, 48]⟩ : ByteArray)⟩ : S46) )) (Reps.none _ _))); intro v259 w10 ho11 hb hg_ hnew_; clear hg_ hnew_; (first | rw [← Ny258.out] at ho11 | (simp only [Int.reduceToNat] at ho11; rw [← Ny258.out] at ho11)); have HO260 := Aside0.mk (Kd.R_lower ho11 (below_size W2_)); replace BK257 := Aside0.mk (blk_below (g := gb257) (o := .cells #[.string (⟨#[]⟩ : ByteArray), .int .i64 0, .int .i64 0, .int .i64 3600, .bool false, .bool true, .slice none 0 0] 24 (0, 0)) (G1_ BK257.out) hb); replace HB := y2_ hb; clear hb ho11; obtain ⟨z12_0, z12_1, z12_2, z12_3, z12_4, z12_5, z12_6, y12_0, y12_1, y12_2, y12_3, y12_4, y12_5, y12_6⟩ := cz7_ BK257.out; obtain ⟨Ao13, co13, eo13⟩ := Kd.R_slice HO260.out; subst eo13) | ((with_reducible refine gate_callee (f := 21) rfl ?_); refine goesL_ (some 8) rfl rfl Tryz.func21 (by kernel_rfl) rfl #[.agg #[.string (⟨#[]⟩ : ByteArray), .int .i64 0, .int .i64 0, .int .i64 3600, .bool false, .bool true, .slice none 0 0], .slice none 0 0, .slice Ao13 y258.length co13, .int .i64 100, .int .i64 100, .int .i64 110] rfl T1_ ?_; (refine (fresh_Use.calls k (⟨#[]⟩ : ByteArray) 0 0 3600 false true _ _ ([] : List ByteArray) _ _ ([] : List (S46)) _ _ y258 100 100 110 t261 _ ?side1 ?side2 ?side3 ?side4 ?side5 ?side6 ?side7 A1.out).mono ?_); (case side1 => exact Kd.C_nil _ _); (case side2 => exact Nat.le_refl _); (case side3 => exact Kd.C_nil _ _); (case side4 => exact Nat.le_refl _); (case side5 => exact C1_ ((Kd.R_reads' HO260.out).2.2)); (case side6 => exact (Kd.R_reads' HO260.out).2.1); (case side7 => exact C1_ ((WF.below HRW.out HB.out))); rintro e w14 ⟨rfl, hb⟩; refine ⟨_, rfl, ?_⟩; replace HO260 := Aside0.mk (Kd.R_below (R1_ HO260.out) hb); replace BK257 := yB_ BK257 hb; replace HB := y2_ hb; (try clear hb); obtain ⟨z15_0, z15_1, z15_2, z15_3, z15_4, z15_5, z15_6, y15_0, y15_1, y15_2, y15_3, y15_4, y15_5, y15_6⟩ := cz7_ BK257.out) | (go_at_call 21; (refine (fresh_Use.calls k (⟨#[]⟩ : ByteArray) 0 0 3600 false true _ _ ([] : List ByteArray) _ _ ([] : List (S46)) _ _ y258 100 100 160 t262 _ ?side1 ?side2 ?side3 ?side4 ?side5 ?side6 ?side7 A3.out).mono ?_); (case side1 => exact Kd.C_nil _ _); (case side2 => exact Nat.le_refl _); (case side3 => exact Kd.C_nil _ _); (case side4 => exact Nat.le_refl _); (case side5 => exact C1_ ((Kd.R_reads' HO260.out).2.2)); (case side6 => exact (Kd.R_reads' HO260.out).2.1); (case side7 => exact C1_ ((WF.below HRW.out HB.out))); rintro e w16 ⟨rfl, hb⟩; clear A3; replace HO260 := Aside0.mk (Kd.R_below (R1_ HO260.out) hb); replace BK257 := yB_ BK257 hb; replace HB := y2_ hb; (try clear hb); obtain ⟨z17_0, z17_1, z17_2, z17_3, z17_4, z17_5, z17_6, y17_0, y17_1, y17_2, y17_3, y17_4, y17_5, y17_6⟩ := cz7_ BK257.out) | (go_at_call 13; (refine (fresh_Kept.calls k (⟨#[]⟩ : ByteArray) 0 0 3600 false true _ _ ([] : List ByteArray) (⟨#[71, 69, 84]⟩ : ByteArray) _ _ ([] : List (S46)) 200 _ _ y258 true _ ?side1 ?side2 ?side3 ?side4 ?side5 ?side6 A5.out).mono ?_); (case side1 => exact Kd.C_nil _ _); (case side2 => exact Nat.le_refl _); (case side3 => exact Kd.C_nil _ _); (case side4 => exact Nat.le_refl _); (case side5 => exact C1_ ((Kd.R_reads' HO260.out).2.2)); (case side6 => exact (Kd.R_reads' HO260.out).2.1); rintro e w18 ⟨rfl, hb⟩; clear A5; replace HO260 := Aside0.mk (Kd.R_below (R1_ HO260.out) hb); replace BK257 := yB_ BK257 hb; replace HB := y2_ hb; (try clear hb); obtain ⟨z19_0, z19_1, z19_2, z19_3, z19_4, z19_5, z19_6, y19_0, y19_1, y19_2, y19_3, y19_4, y19_5, y19_6⟩ := cz7_ BK257.out) | (go_at_call 17; (refine (fresh_Life.calls k (⟨#[]⟩ : ByteArray) 0 0 3600 false true _ _ ([] : List ByteArray) _ _ y258 100 t264 _ ?side1 ?side2 ?side3 ?side4 ?side5 A7.out).mono ?_); (case side1 => exact Kd.C_nil _ _); (case side2 => exact Nat.le_refl _); (case side3 => exact C1_ ((Kd.R_reads' HO260.out).2.2)); (case side4 => exact (Kd.R_reads' HO260.out).2.1); (case side5 => exact C1_ ((WF.below HRW.out HB.out))); rintro e w20 ⟨rfl, hb⟩; clear A7; replace HO260 := Aside0.mk (Kd.R_below (R1_ HO260.out) hb); replace BK257 := yB_ BK257 hb; replace HB := y2_ hb; (try clear hb)))
    go_ret
    exact ⟨E1_, W2_⟩
   ·
    replace c6 := Bool.eq_false_iff.mpr c6
    subst c6
    rw [if_neg (show ¬ (false = true) by decide)] at H
    exact absurd H (by simp)
  ·
   rw [if_neg c4] at H
   exact absurd H (by simp)
 ·
  rw [if_neg c2] at H
  exact absurd H (by simp)

end Go.Proofs.YtgpekljckdgggaaGreatDoor.PAll
