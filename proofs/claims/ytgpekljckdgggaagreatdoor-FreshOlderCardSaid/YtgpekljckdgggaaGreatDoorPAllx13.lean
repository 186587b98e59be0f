-- Text by a program of this session, over what print.py prints.
import Derived.Test.YtgpekljckdgggaaGreatDoorPAllx0
import Derived.Test.YtgpekljckdgggaaGreatDoorPAllx9
import Derived.Test.YtgpekljckdgggaaGreatDoorPAllx11
import Derived.Test.YtgpekljckdgggaaGreatDoorPAllx12
namespace Go.Proofs.YtgpekljckdgggaaGreatDoor.PAll
open Go.RowKit Go.Proofs.YtgpekljckdgggaaGreatDoorW.PrintWords Go.Proofs.YtgpekljckdgggaaGreatDoorW.PrintLast Go.Proofs.YtgpekljckdgggaaGreatDoorW.PrintMore
attribute [local go_sem] max2_int min2_int max_two min_two max_three min_three max_four min_four   -- for this text's walks alone
set_option linter.unusedVariables false
set_option linter.unusedSimpArgs false

/-! ### pantrylaw12_FreshOlder: function 6 -/
def pantrylaw12_FreshOlder.j0 : Nat → List (S46) → List (S46) → Int → Int → Int → Int → Bool → ByteArray → Int → Int → Int → Bool → Bool → List ByteArray → Option (Bool)
  | 0, _, _, _, _, _, _, _, _, _, _, _, _, _, _ => none
  | k + 1, x1, x2, x3, x4, x5, x6, x65, x277000, x277001, x277002, x277003, x277004, x277005, x277006 => if x65 = true then (some true) else ((fresh_Age.f k x2 x3 x4 x5).bind fun t281 => ((fresh_Age.f k x2 x3 x4 (wrap64 (x5 + x6))).bind fun t282 => (if (wrap64 (t282 - t281)) = x6 then (if t281 ≥ 0 then ((fresh_Use.f k x277000 x277001 x277002 x277003 x277004 x277005 x277006 x1 x2 x3 x4 x5).bind fun t283 => (if t283 = 0 then (some true) else ((fresh_Use.f k x277000 x277001 x277002 x277003 x277004 x277005 x277006 x1 x2 x3 x4 (wrap64 (x5 + x6))).bind fun t284 => (some (t284 != 0))))) else (none)) else (none))))
def pantrylaw12_FreshOlder.f (k : Nat) (a0_0 : ByteArray) (a0_1 : Int) (a0_2 : Int) (a0_3 : Int) (a0_4 : Bool) (a0_5 : Bool) (l0_6 : List ByteArray) (l1 : List (S46)) (l2 : List (S46)) (a3 : Int) (a4 : Int) (a5 : Int) (a6 : Int) : Option (Bool) := (pantrylaw12_anchor.f k).bind fun t277 => (if t277 = true then ((pantrylaw12_fit.f k a0_0 a0_1 a0_2 a0_3 a0_4 a0_5 l0_6).bind fun t278 => (if t278 = true then ((pantrylaw12_small.f k l2).bind fun t279 => (if t279 = true then ((pantrylaw12_small.f k l1).bind fun t280 => (if t280 = true then (if a3 < 0 then (pantrylaw12_FreshOlder.j0 k l1 l2 a3 a4 a5 a6 true a0_0 a0_1 a0_2 a0_3 a0_4 a0_5 l0_6) else (if a3 > 68719476736 then (pantrylaw12_FreshOlder.j0 k l1 l2 a3 a4 a5 a6 true a0_0 a0_1 a0_2 a0_3 a0_4 a0_5 l0_6) else (if a4 < a3 then (pantrylaw12_FreshOlder.j0 k l1 l2 a3 a4 a5 a6 true a0_0 a0_1 a0_2 a0_3 a0_4 a0_5 l0_6) else (if a4 > 68719476736 then (pantrylaw12_FreshOlder.j0 k l1 l2 a3 a4 a5 a6 true a0_0 a0_1 a0_2 a0_3 a0_4 a0_5 l0_6) else (if a5 < a4 then (pantrylaw12_FreshOlder.j0 k l1 l2 a3 a4 a5 a6 true a0_0 a0_1 a0_2 a0_3 a0_4 a0_5 l0_6) else (if a5 > 68719476736 then (pantrylaw12_FreshOlder.j0 k l1 l2 a3 a4 a5 a6 true a0_0 a0_1 a0_2 a0_3 a0_4 a0_5 l0_6) else (if a6 < 0 then (pantrylaw12_FreshOlder.j0 k l1 l2 a3 a4 a5 a6 true a0_0 a0_1 a0_2 a0_3 a0_4 a0_5 l0_6) else (pantrylaw12_FreshOlder.j0 k l1 l2 a3 a4 a5 a6 (decide (a6 > 68719476736)) a0_0 a0_1 a0_2 a0_3 a0_4 a0_5 l0_6)))))))) else (pantrylaw12_FreshOlder.j0 k l1 l2 a3 a4 a5 a6 true a0_0 a0_1 a0_2 a0_3 a0_4 a0_5 l0_6))) else (pantrylaw12_FreshOlder.j0 k l1 l2 a3 a4 a5 a6 true a0_0 a0_1 a0_2 a0_3 a0_4 a0_5 l0_6))) else (pantrylaw12_FreshOlder.j0 k l1 l2 a3 a4 a5 a6 true a0_0 a0_1 a0_2 a0_3 a0_4 a0_5 l0_6))) else (none))
theorem pantrylaw12_FreshOlder.mono_l : ∀ k, (∀ y0 y1 y2 y3 y4 y5 y6 y7 y8 y9 y10 y11 y12 y13, LeO (pantrylaw12_FreshOlder.j0 k y0 y1 y2 y3 y4 y5 y6 y7 y8 y9 y10 y11 y12 y13) (pantrylaw12_FreshOlder.j0 (k + 1) y0 y1 y2 y3 y4 y5 y6 y7 y8 y9 y10 y11 y12 y13))
  | 0 => fun _ _ _ _ _ _ _ _ _ _ _ _ _ _ r h => by simp [pantrylaw12_FreshOlder.j0] at h
  | k + 1 => by
    have ih0 := pantrylaw12_FreshOlder.mono_l k
    · intro y0 y1 y2 y3 y4 y5 y6 y7 y8 y9 y10 y11 y12 y13
      unfold pantrylaw12_FreshOlder.j0
      repeat' first
      | (with_reducible exact ih0 _ _ _ _ _ _ _ _ _ _ _ _ _ _)
      | (with_reducible exact fresh_Age.mono _ _ _ _ _)
      | (with_reducible exact fresh_Use.mono _ _ _ _ _ _ _ _ _ _ _ _ _)
      | (with_reducible exact pantrylaw12_anchor.mono _)
      | (with_reducible exact pantrylaw12_fit.mono _ _ _ _ _ _ _ _)
      | (with_reducible exact pantrylaw12_small.mono _ _)
      | (with_reducible exact LeO.refl _)
      | (with_reducible exact LeO.none _)
      | (with_reducible refine LeO.ite ?_ ?_)
      | (with_reducible refine LeO.bind ?_ (fun _ => ?_))
      | exact ih0 _ _ _ _ _ _ _ _ _ _ _ _ _ _
      | exact fresh_Age.mono _ _ _ _ _
      | exact fresh_Use.mono _ _ _ _ _ _ _ _ _ _ _ _ _
      | exact pantrylaw12_anchor.mono _
      | exact pantrylaw12_fit.mono _ _ _ _ _ _ _ _
      | exact pantrylaw12_small.mono _ _
      | exact LeO.none _
      | refine LeO.ite ?_ ?_
      | refine LeO.bind ?_ (fun _ => ?_)
theorem pantrylaw12_FreshOlder.mono : ∀ a0 a1 a2 a3 a4 a5 a6 a7 a8 a9 a10 a11 a12 k, LeO (pantrylaw12_FreshOlder.f k a0 a1 a2 a3 a4 a5 a6 a7 a8 a9 a10 a11 a12) (pantrylaw12_FreshOlder.f (k + 1) a0 a1 a2 a3 a4 a5 a6 a7 a8 a9 a10 a11 a12) := by
  intro a0 a1 a2 a3 a4 a5 a6 a7 a8 a9 a10 a11 a12 k
  have ih0 := pantrylaw12_FreshOlder.mono_l k
  unfold pantrylaw12_FreshOlder.f
  repeat' first
      | (with_reducible exact ih0 _ _ _ _ _ _ _ _ _ _ _ _ _ _)
      | (with_reducible exact fresh_Age.mono _ _ _ _ _)
      | (with_reducible exact fresh_Use.mono _ _ _ _ _ _ _ _ _ _ _ _ _)
      | (with_reducible exact pantrylaw12_anchor.mono _)
      | (with_reducible exact pantrylaw12_fit.mono _ _ _ _ _ _ _ _)
      | (with_reducible exact pantrylaw12_small.mono _ _)
      | (with_reducible exact LeO.refl _)
      | (with_reducible exact LeO.none _)
      | (with_reducible refine LeO.ite ?_ ?_)
      | (with_reducible refine LeO.bind ?_ (fun _ => ?_))
      | exact ih0 _ _ _ _ _ _ _ _ _ _ _ _ _ _
      | exact fresh_Age.mono _ _ _ _ _
      | exact fresh_Use.mono _ _ _ _ _ _ _ _ _ _ _ _ _
      | exact pantrylaw12_anchor.mono _
      | exact pantrylaw12_fit.mono _ _ _ _ _ _ _ _
      | exact pantrylaw12_small.mono _ _
      | exact LeO.none _
      | refine LeO.ite ?_ ?_
      | refine LeO.bind ?_ (fun _ => ?_)
set_option maxHeartbeats 8000000 in
set_option maxRecDepth 100000 in
theorem pantrylaw12_FreshOlder.calls (k : Nat) (a0_0 : ByteArray) (a0_1 : Int) (a0_2 : Int) (a0_3 : Int) (a0_4 : Bool) (a0_5 : Bool) (A0_6 : Option Addr) (c0_6 : Nat) (l0_6 : List ByteArray) (A1 : Option Addr) (c1 : Nat) (l1 : List (S46)) (A2 : Option Addr) (c2 : Nat) (l2 : List (S46)) (a3 : Int) (a4 : Int) (a5 : Int) (a6 : Int) (r : Bool) (w : World) (hr0_6 : Kd.C Kd.string w A0_6 l0_6.length l0_6) (hc0_6 : l0_6.length ≤ c0_6) (hr1 : Kd.C k46 w A1 l1.length l1) (hc1 : l1.length ≤ c1) (hr2 : Kd.C k46 w A2 l2.length l2) (hc2 : l2.length ≤ c2) (hrW : WF w) (h : pantrylaw12_FreshOlder.f k a0_0 a0_1 a0_2 a0_3 a0_4 a0_5 l0_6 l1 l2 a3 a4 a5 a6 = some r) :
    Calls Tryz.prog 6 #[.agg #[.string a0_0, .int .i64 a0_1, .int .i64 a0_2, .int .i64 a0_3, .bool a0_4, .bool a0_5, .slice A0_6 l0_6.length c0_6], .slice A1 l1.length c1, .slice A2 l2.length c2, .int .i64 a3, .int .i64 a4, .int .i64 a5, .int .i64 a6] w fun e w' => e = .returned (.bool r) ∧ Below w.heap.size w w' := by
  have hu24 := Tryz.underlying24
  have HRW := Aside0.mk hrW
  clear hrW
  have HR0_6 := Aside0.mk hr0_6
  have HC0_6 := Aside0.mk hc0_6
  clear hr0_6 hc0_6
  have HR1 := Aside0.mk hr1
  have HC1 := Aside0.mk hc1
  clear hr1 hc1
  have HR2 := Aside0.mk hr2
  have HC2 := Aside0.mk hc2
  clear hr2 hc2
  have HB := Aside0.mk (Below.refl w.heap.size w)
  have H : ((pantrylaw12_anchor.f k).bind fun t277 => (if t277 = true then ((pantrylaw12_fit.f k a0_0 a0_1 a0_2 a0_3 a0_4 a0_5 l0_6).bind fun t278 => (if t278 = true then ((pantrylaw12_small.f k l2).bind fun t279 => (if t279 = true then ((pantrylaw12_small.f k l1).bind fun t280 => (if t280 = true then (if a3 < 0 then (pantrylaw12_FreshOlder.j0 k l1 l2 a3 a4 a5 a6 true a0_0 a0_1 a0_2 a0_3 a0_4 a0_5 l0_6) else (if a3 > 68719476736 then (pantrylaw12_FreshOlder.j0 k l1 l2 a3 a4 a5 a6 true a0_0 a0_1 a0_2 a0_3 a0_4 a0_5 l0_6) else (if a4 < a3 then (pantrylaw12_FreshOlder.j0 k l1 l2 a3 a4 a5 a6 true a0_0 a0_1 a0_2 a0_3 a0_4 a0_5 l0_6) else (if a4 > 68719476736 then (pantrylaw12_FreshOlder.j0 k l1 l2 a3 a4 a5 a6 true a0_0 a0_1 a0_2 a0_3 a0_4 a0_5 l0_6) else (if a5 < a4 then (pantrylaw12_FreshOlder.j0 k l1 l2 a3 a4 a5 a6 true a0_0 a0_1 a0_2 a0_3 a0_4 a0_5 l0_6) else (if a5 > 68719476736 then (pantrylaw12_FreshOlder.j0 k l1 l2 a3 a4 a5 a6 true a0_0 a0_1 a0_2 a0_3 a0_4 a0_5 l0_6) else (if a6 < 0 then (pantrylaw12_FreshOlder.j0 k l1 l2 a3 a4 a5 a6 true a0_0 a0_1 a0_2 a0_3 a0_4 a0_5 l0_6) else (pantrylaw12_FreshOlder.j0 k l1 l2 a3 a4 a5 a6 (decide (a6 > 68719476736)) a0_0 a0_1 a0_2 a0_3 a0_4 a0_5 l0_6)))))))) else (pantrylaw12_FreshOlder.j0 k l1 l2 a3 a4 a5 a6 true a0_0 a0_1 a0_2 a0_3 a0_4 a0_5 l0_6))) else (pantrylaw12_FreshOlder.j0 k l1 l2 a3 a4 a5 a6 true a0_0 a0_1 a0_2 a0_3 a0_4 a0_5 l0_6))) else (pantrylaw12_FreshOlder.j0 k l1 l2 a3 a4 a5 a6 true a0_0 a0_1 a0_2 a0_3 a0_4 a0_5 l0_6))) else (none))) = some r := h
  clear h
  replace H := Option.bind_eq_some_iff.mp H
  obtain ⟨t277, A80, H⟩ := H
  replace H : (if t277 = true then ((pantrylaw12_fit.f k a0_0 a0_1 a0_2 a0_3 a0_4 a0_5 l0_6).bind fun t278 => (if t278 = true then ((pantrylaw12_small.f k l2).bind fun t279 => (if t279 = true then ((pantrylaw12_small.f k l1).bind fun t280 => (if t280 = true then (if a3 < 0 then (pantrylaw12_FreshOlder.j0 k l1 l2 a3 a4 a5 a6 true a0_0 a0_1 a0_2 a0_3 a0_4 a0_5 l0_6) else (if a3 > 68719476736 then (pantrylaw12_FreshOlder.j0 k l1 l2 a3 a4 a5 a6 true a0_0 a0_1 a0_2 a0_3 a0_4 a0_5 l0_6) else (if a4 < a3 then (pantrylaw12_FreshOlder.j0 k l1 l2 a3 a4 a5 a6 true a0_0 a0_1 a0_2 a0_3 a0_4 a0_5 l0_6) else (if a4 > 68719476736 then (pantrylaw12_FreshOlder.j0 k l1 l2 a3 a4 a5 a6 true a0_0 a0_1 a0_2 a0_3 a0_4 a0_5 l0_6) else (if a5 < a4 then (pantrylaw12_FreshOlder.j0 k l1 l2 a3 a4 a5 a6 true a0_0 a0_1 a0_2 a0_3 a0_4 a0_5 l0_6) else (if a5 > 68719476736 then (pantrylaw12_FreshOlder.j0 k l1 l2 a3 a4 a5 a6 true a0_0 a0_1 a0_2 a0_3 a0_4 a0_5 l0_6) else (if a6 < 0 then (pantrylaw12_FreshOlder.j0 k l1 l2 a3 a4 a5 a6 true a0_0 a0_1 a0_2 a0_3 a0_4 a0_5 l0_6) else (pantrylaw12_FreshOlder.j0 k l1 l2 a3 a4 a5 a6 (decide (a6 > 68719476736)) a0_0 a0_1 a0_2 a0_3 a0_4 a0_5 l0_6)))))))) else (pantrylaw12_FreshOlder.j0 k l1 l2 a3 a4 a5 a6 true a0_0 a0_1 a0_2 a0_3 a0_4 a0_5 l0_6))) else (pantrylaw12_FreshOlder.j0 k l1 l2 a3 a4 a5 a6 true a0_0 a0_1 a0_2 a0_3 a0_4 a0_5 l0_6))) else (pantrylaw12_FreshOlder.j0 k l1 l2 a3 a4 a5 a6 true a0_0 a0_1 a0_2 a0_3 a0_4 a0_5 l0_6))) else (none)) = some r := H
  have A8 := Aside0.mk A80
  clear A80
  by_cases c9 : t277 = true
  · subst c9
    have H1 : ((pantrylaw12_fit.f k a0_0 a0_1 a0_2 a0_3 a0_4 a0_5 l0_6).bind fun t278 => (if t278 = true then ((pantrylaw12_small.f k l2).bind fun t279 => (if t279 = true then ((pantrylaw12_small.f k l1).bind fun t280 => (if t280 = true then (if a3 < 0 then (pantrylaw12_FreshOlder.j0 k l1 l2 a3 a4 a5 a6 true a0_0 a0_1 a0_2 a0_3 a0_4 a0_5 l0_6) else (if a3 > 68719476736 then (pantrylaw12_FreshOlder.j0 k l1 l2 a3 a4 a5 a6 true a0_0 a0_1 a0_2 a0_3 a0_4 a0_5 l0_6) else (if a4 < a3 then (pantrylaw12_FreshOlder.j0 k l1 l2 a3 a4 a5 a6 true a0_0 a0_1 a0_2 a0_3 a0_4 a0_5 l0_6) else (if a4 > 68719476736 then (pantrylaw12_FreshOlder.j0 k l1 l2 a3 a4 a5 a6 true a0_0 a0_1 a0_2 a0_3 a0_4 a0_5 l0_6) else (if a5 < a4 then (pantrylaw12_FreshOlder.j0 k l1 l2 a3 a4 a5 a6 true a0_0 a0_1 a0_2 a0_3 a0_4 a0_5 l0_6) else (if a5 > 68719476736 then (pantrylaw12_FreshOlder.j0 k l1 l2 a3 a4 a5 a6 true a0_0 a0_1 a0_2 a0_3 a0_4 a0_5 l0_6) else (if a6 < 0 then (pantrylaw12_FreshOlder.j0 k l1 l2 a3 a4 a5 a6 true a0_0 a0_1 a0_2 a0_3 a0_4 a0_5 l0_6) else (pantrylaw12_FreshOlder.j0 k l1 l2 a3 a4 a5 a6 (decide (a6 > 68719476736)) a0_0 a0_1 a0_2 a0_3 a0_4 a0_5 l0_6)))))))) else (pantrylaw12_FreshOlder.j0 k l1 l2 a3 a4 a5 a6 true a0_0 a0_1 a0_2 a0_3 a0_4 a0_5 l0_6))) else (pantrylaw12_FreshOlder.j0 k l1 l2 a3 a4 a5 a6 true a0_0 a0_1 a0_2 a0_3 a0_4 a0_5 l0_6))) else (pantrylaw12_FreshOlder.j0 k l1 l2 a3 a4 a5 a6 true a0_0 a0_1 a0_2 a0_3 a0_4 a0_5 l0_6))) = some r := by rw [if_pos rfl] at H; exact H
    clear H
    have H := H1
    clear H1
    have HC10 := Aside0.mk H
    clear H
    go_enter Tryz.func6, Tryz.ntmps6
    go_upto_region 3 with (first | ((with_reducible refine gate_dst (N := 7) rfl ?_); refine box_event ?hg (N := 7) ?hd (cs := #[.string a0_0, .int .i64 a0_1, .int .i64 a0_2, .int .i64 a0_3, .bool a0_4, .bool a0_5, .slice A0_6 l0_6.length c0_6]) (t := 24) ?hr ?_; (case hd => rfl); (case hg => rfl); (case hr => first | (go_simp; done) | (go_simp; rfl)); intro gb276 hg w11 hbox hb; have n0_ := Aside0.mk (below_step (by repeat (first | (with_reducible first | exact HB.out | apply below_alloc | apply pw_below_drewN | apply below_drew1) | exact HB.out)) hb); have n1_ := Aside0.mk (hbox); have n2_ := Aside0.mk ((by rw [hg]; exact (below_size (by repeat (first | (with_reducible first | exact HB.out | apply below_alloc | apply pw_below_drewN | apply below_drew1) | exact HB.out))) : w.heap.size ≤ gb276)); have n3_ := Aside0.mk ((by rw [hg]; exact (below_size (by repeat (first | (with_reducible first | exact HB.out | apply below_alloc | apply pw_below_drewN | apply below_drew1) | exact HB.out))) : w.heap.size ≤ gb276)); clear HB; have HB := n0_; have BK276 := n1_; have GW276 := n2_; have GE276 := n3_; clear n0_ n1_ n2_ n3_; clear hb hbox hg) | ((with_reducible refine gate_callee (f := 10) rfl ?_); refine goesL_ (some 17) rfl rfl Tryz.func10 (by kernel_rfl) rfl #[] rfl (by (try simp only [List.map_toArray, List.map_cons, List.map_nil]); first | done | rfl | (simp only [List.length_drop, List.length_take]; rfl)) ?_; (with_reducible refine (pantrylaw12_anchor.calls k  true _ ?side1 A8.out).mono ?_); (case side1 => repeat (first | exact (WF.below HRW.out HB.out) | (with_reducible refine Kd.C_alloc ?_ _) | (with_reducible refine Kd.C_drewN ?_ _) | (with_reducible refine Kd.C_drew ?_))); rintro e w12 ⟨rfl, hb⟩; refine ⟨_, rfl, ?_⟩; have n0_ := Aside0.mk (blk_below (g := gb276) (o := .cells #[.string a0_0, .int .i64 a0_1, .int .i64 a0_2, .int .i64 a0_3, .bool a0_4, .bool a0_5, .slice A0_6 l0_6.length c0_6] 24 (0, 0)) (by (with_reducible repeat (first | refine blk_drewN ?_ _ | refine blk_drew ?_ | refine blk_alloc ?_ _)); exact BK276.out) hb); have n1_ := Aside0.mk (below_step (by repeat (first | (with_reducible first | exact HB.out | apply below_alloc | apply pw_below_drewN | apply below_drew1 | refine below_set ?_ GE276.out) | exact HB.out)) hb); clear BK276; clear HB; have BK276 := n0_; have HB := n1_; clear n0_ n1_; (try clear hb); (try clear hb2); (try clear hk); (try clear hi)))
    (try simp only [Act.put, List.setIfInBounds_toArray, List.set_cons_zero, List.set_cons_succ])
    go_cut [65] (fun v65 wc => ∃ (kq : Nat) (x65_9 : Bool), v65 = .bool x65_9 ∧ Aside0 (pantrylaw12_FreshOlder.j0 kq l1 l2 a3 a4 a5 a6 x65_9 a0_0 a0_1 a0_2 a0_3 a0_4 a0_5 l0_6 = some r) ∧ Aside0 (kq ≤ k) ∧ Aside0 (wc.heap[gb276]? = some (.cells #[.string a0_0, .int .i64 a0_1, .int .i64 a0_2, .int .i64 a0_3, .bool a0_4, .bool a0_5, (.slice A0_6 l0_6.length c0_6)] 24 (0, 0))) ∧ Aside0 (Below w.heap.size w wc))
    case first =>
      have H := HC10.out
      clear HC10
      replace H := Option.bind_eq_some_iff.mp H
      obtain ⟨t278, A130, H⟩ := H
      replace H : (if t278 = true then ((pantrylaw12_small.f k l2).bind fun t279 => (if t279 = true then ((pantrylaw12_small.f k l1).bind fun t280 => (if t280 = true then (if a3 < 0 then (pantrylaw12_FreshOlder.j0 k l1 l2 a3 a4 a5 a6 true a0_0 a0_1 a0_2 a0_3 a0_4 a0_5 l0_6) else (if a3 > 68719476736 then (pantrylaw12_FreshOlder.j0 k l1 l2 a3 a4 a5 a6 true a0_0 a0_1 a0_2 a0_3 a0_4 a0_5 l0_6) else (if a4 < a3 then (pantrylaw12_FreshOlder.j0 k l1 l2 a3 a4 a5 a6 true a0_0 a0_1 a0_2 a0_3 a0_4 a0_5 l0_6) else (if a4 > 68719476736 then (pantrylaw12_FreshOlder.j0 k l1 l2 a3 a4 a5 a6 true a0_0 a0_1 a0_2 a0_3 a0_4 a0_5 l0_6) else (if a5 < a4 then (pantrylaw12_FreshOlder.j0 k l1 l2 a3 a4 a5 a6 true a0_0 a0_1 a0_2 a0_3 a0_4 a0_5 l0_6) else (if a5 > 68719476736 then (pantrylaw12_FreshOlder.j0 k l1 l2 a3 a4 a5 a6 true a0_0 a0_1 a0_2 a0_3 a0_4 a0_5 l0_6) else (if a6 < 0 then (pantrylaw12_FreshOlder.j0 k l1 l2 a3 a4 a5 a6 true a0_0 a0_1 a0_2 a0_3 a0_4 a0_5 l0_6) else (pantrylaw12_FreshOlder.j0 k l1 l2 a3 a4 a5 a6 (decide (a6 > 68719476736)) a0_0 a0_1 a0_2 a0_3 a0_4 a0_5 l0_6)))))))) else (pantrylaw12_FreshOlder.j0 k l1 l2 a3 a4 a5 a6 true a0_0 a0_1 a0_2 a0_3 a0_4 a0_5 l0_6))) else (pantrylaw12_FreshOlder.j0 k l1 l2 a3 a4 a5 a6 true a0_0 a0_1 a0_2 a0_3 a0_4 a0_5 l0_6))) else (pantrylaw12_FreshOlder.j0 k l1 l2 a3 a4 a5 a6 true a0_0 a0_1 a0_2 a0_3 a0_4 a0_5 l0_6)) = some r := H
      have A13 := Aside0.mk A130
      clear A130
      by_cases c14 : t278 = true
      · subst c14
        have H1 : ((pantrylaw12_small.f k l2).bind fun t279 => (if t279 = true then ((pantrylaw12_small.f k l1).bind fun t280 => (if t280 = true then (if a3 < 0 then (pantrylaw12_FreshOlder.j0 k l1 l2 a3 a4 a5 a6 true a0_0 a0_1 a0_2 a0_3 a0_4 a0_5 l0_6) else (if a3 > 68719476736 then (pantrylaw12_FreshOlder.j0 k l1 l2 a3 a4 a5 a6 true a0_0 a0_1 a0_2 a0_3 a0_4 a0_5 l0_6) else (if a4 < a3 then (pantrylaw12_FreshOlder.j0 k l1 l2 a3 a4 a5 a6 true a0_0 a0_1 a0_2 a0_3 a0_4 a0_5 l0_6) else (if a4 > 68719476736 then (pantrylaw12_FreshOlder.j0 k l1 l2 a3 a4 a5 a6 true a0_0 a0_1 a0_2 a0_3 a0_4 a0_5 l0_6) else (if a5 < a4 then (pantrylaw12_FreshOlder.j0 k l1 l2 a3 a4 a5 a6 true a0_0 a0_1 a0_2 a0_3 a0_4 a0_5 l0_6) else (if a5 > 68719476736 then (pantrylaw12_FreshOlder.j0 k l1 l2 a3 a4 a5 a6 true a0_0 a0_1 a0_2 a0_3 a0_4 a0_5 l0_6) else (if a6 < 0 then (pantrylaw12_FreshOlder.j0 k l1 l2 a3 a4 a5 a6 true a0_0 a0_1 a0_2 a0_3 a0_4 a0_5 l0_6) else (pantrylaw12_FreshOlder.j0 k l1 l2 a3 a4 a5 a6 (decide (a6 > 68719476736)) a0_0 a0_1 a0_2 a0_3 a0_4 a0_5 l0_6)))))))) else (pantrylaw12_FreshOlder.j0 k l1 l2 a3 a4 a5 a6 true a0_0 a0_1 a0_2 a0_3 a0_4 a0_5 l0_6))) else (pantrylaw12_FreshOlder.j0 k l1 l2 a3 a4 a5 a6 true a0_0 a0_1 a0_2 a0_3 a0_4 a0_5 l0_6))) = some r := by rw [if_pos rfl] at H; exact H
        clear H
        have H := H1
        clear H1
        replace H := Option.bind_eq_some_iff.mp H
        obtain ⟨t279, A150, H⟩ := H
        replace H : (if t279 = true then ((pantrylaw12_small.f k l1).bind fun t280 => (if t280 = true then (if a3 < 0 then (pantrylaw12_FreshOlder.j0 k l1 l2 a3 a4 a5 a6 true a0_0 a0_1 a0_2 a0_3 a0_4 a0_5 l0_6) else (if a3 > 68719476736 then (pantrylaw12_FreshOlder.j0 k l1 l2 a3 a4 a5 a6 true a0_0 a0_1 a0_2 a0_3 a0_4 a0_5 l0_6) else (if a4 < a3 then (pantrylaw12_FreshOlder.j0 k l1 l2 a3 a4 a5 a6 true a0_0 a0_1 a0_2 a0_3 a0_4 a0_5 l0_6) else (if a4 > 68719476736 then (pantrylaw12_FreshOlder.j0 k l1 l2 a3 a4 a5 a6 true a0_0 a0_1 a0_2 a0_3 a0_4 a0_5 l0_6) else (if a5 < a4 then (pantrylaw12_FreshOlder.j0 k l1 l2 a3 a4 a5 a6 true a0_0 a0_1 a0_2 a0_3 a0_4 a0_5 l0_6) else (if a5 > 68719476736 then (pantrylaw12_FreshOlder.j0 k l1 l2 a3 a4 a5 a6 true a0_0 a0_1 a0_2 a0_3 a0_4 a0_5 l0_6) else (if a6 < 0 then (pantrylaw12_FreshOlder.j0 k l1 l2 a3 a4 a5 a6 true a0_0 a0_1 a0_2 a0_3 a0_4 a0_5 l0_6) else (pantrylaw12_FreshOlder.j0 k l1 l2 a3 a4 a5 a6 (decide (a6 > 68719476736)) a0_0 a0_1 a0_2 a0_3 a0_4 a0_5 l0_6)))))))) else (pantrylaw12_FreshOlder.j0 k l1 l2 a3 a4 a5 a6 true a0_0 a0_1 a0_2 a0_3 a0_4 a0_5 l0_6))) else (pantrylaw12_FreshOlder.j0 k l1 l2 a3 a4 a5 a6 true a0_0 a0_1 a0_2 a0_3 a0_4 a0_5 l0_6)) = some r := H
        have A15 := Aside0.mk A150
        clear A150
        by_cases c16 : t279 = true
        · subst c16
          have H1 : ((pantrylaw12_small.f k l1).bind fun t280 => (if t280 = true then (if a3 < 0 then (pantrylaw12_FreshOlder.j0 k l1 l2 a3 a4 a5 a6 true a0_0 a0_1 a0_2 a0_3 a0_4 a0_5 l0_6) else (if a3 > 68719476736 then (pantrylaw12_FreshOlder.j0 k l1 l2 a3 a4 a5 a6 true a0_0 a0_1 a0_2 a0_3 a0_4 a0_5 l0_6) else (if a4 < a3 then (pantrylaw12_FreshOlder.j0 k l1 l2 a3 a4 a5 a6 true a0_0 a0_1 a0_2 a0_3 a0_4 a0_5 l0_6) else (if a4 > 68719476736 then (pantrylaw12_FreshOlder.j0 k l1 l2 a3 a4 a5 a6 true a0_0 a0_1 a0_2 a0_3 a0_4 a0_5 l0_6) else (if a5 < a4 then (pantrylaw12_FreshOlder.j0 k l1 l2 a3 a4 a5 a6 true a0_0 a0_1 a0_2 a0_3 a0_4 a0_5 l0_6) else (if a5 > 68719476736 then (pantrylaw12_FreshOlder.j0 k l1 l2 a3 a4 a5 a6 true a0_0 a0_1 a0_2 a0_3 a0_4 a0_5 l0_6) else (if a6 < 0 then (pantrylaw12_FreshOlder.j0 k l1 l2 a3 a4 a5 a6 true a0_0 a0_1 a0_2 a0_3 a0_4 a0_5 l0_6) else (pantrylaw12_FreshOlder.j0 k l1 l2 a3 a4 a5 a6 (decide (a6 > 68719476736)) a0_0 a0_1 a0_2 a0_3 a0_4 a0_5 l0_6)))))))) else (pantrylaw12_FreshOlder.j0 k l1 l2 a3 a4 a5 a6 true a0_0 a0_1 a0_2 a0_3 a0_4 a0_5 l0_6))) = some r := by rw [if_pos rfl] at H; exact H
          clear H
          have H := H1
          clear H1
          replace H := Option.bind_eq_some_iff.mp H
          obtain ⟨t280, A170, H⟩ := H
          replace H : (if t280 = true then (if a3 < 0 then (pantrylaw12_FreshOlder.j0 k l1 l2 a3 a4 a5 a6 true a0_0 a0_1 a0_2 a0_3 a0_4 a0_5 l0_6) else (if a3 > 68719476736 then (pantrylaw12_FreshOlder.j0 k l1 l2 a3 a4 a5 a6 true a0_0 a0_1 a0_2 a0_3 a0_4 a0_5 l0_6) else (if a4 < a3 then (pantrylaw12_FreshOlder.j0 k l1 l2 a3 a4 a5 a6 true a0_0 a0_1 a0_2 a0_3 a0_4 a0_5 l0_6) else (if a4 > 68719476736 then (pantrylaw12_FreshOlder.j0 k l1 l2 a3 a4 a5 a6 true a0_0 a0_1 a0_2 a0_3 a0_4 a0_5 l0_6) else (if a5 < a4 then (pantrylaw12_FreshOlder.j0 k l1 l2 a3 a4 a5 a6 true a0_0 a0_1 a0_2 a0_3 a0_4 a0_5 l0_6) else (if a5 > 68719476736 then (pantrylaw12_FreshOlder.j0 k l1 l2 a3 a4 a5 a6 true a0_0 a0_1 a0_2 a0_3 a0_4 a0_5 l0_6) else (if a6 < 0 then (pantrylaw12_FreshOlder.j0 k l1 l2 a3 a4 a5 a6 true a0_0 a0_1 a0_2 a0_3 a0_4 a0_5 l0_6) else (pantrylaw12_FreshOlder.j0 k l1 l2 a3 a4 a5 a6 (decide (a6 > 68719476736)) a0_0 a0_1 a0_2 a0_3 a0_4 a0_5 l0_6)))))))) else (pantrylaw12_FreshOlder.j0 k l1 l2 a3 a4 a5 a6 true a0_0 a0_1 a0_2 a0_3 a0_4 a0_5 l0_6)) = some r := H
          have A17 := Aside0.mk A170
          clear A170
          by_cases c18 : t280 = true
          · subst c18
            have H1 : (if a3 < 0 then (pantrylaw12_FreshOlder.j0 k l1 l2 a3 a4 a5 a6 true a0_0 a0_1 a0_2 a0_3 a0_4 a0_5 l0_6) else (if a3 > 68719476736 then (pantrylaw12_FreshOlder.j0 k l1 l2 a3 a4 a5 a6 true a0_0 a0_1 a0_2 a0_3 a0_4 a0_5 l0_6) else (if a4 < a3 then (pantrylaw12_FreshOlder.j0 k l1 l2 a3 a4 a5 a6 true a0_0 a0_1 a0_2 a0_3 a0_4 a0_5 l0_6) else (if a4 > 68719476736 then (pantrylaw12_FreshOlder.j0 k l1 l2 a3 a4 a5 a6 true a0_0 a0_1 a0_2 a0_3 a0_4 a0_5 l0_6) else (if a5 < a4 then (pantrylaw12_FreshOlder.j0 k l1 l2 a3 a4 a5 a6 true a0_0 a0_1 a0_2 a0_3 a0_4 a0_5 l0_6) else (if a5 > 68719476736 then (pantrylaw12_FreshOlder.j0 k l1 l2 a3 a4 a5 a6 true a0_0 a0_1 a0_2 a0_3 a0_4 a0_5 l0_6) else (if a6 < 0 then (pantrylaw12_FreshOlder.j0 k l1 l2 a3 a4 a5 a6 true a0_0 a0_1 a0_2 a0_3 a0_4 a0_5 l0_6) else (pantrylaw12_FreshOlder.j0 k l1 l2 a3 a4 a5 a6 (decide (a6 > 68719476736)) a0_0 a0_1 a0_2 a0_3 a0_4 a0_5 l0_6)))))))) = some r := by rw [if_pos rfl] at H; exact H
            clear H
            have H := H1
            clear H1
            by_cases c19 : a3 < 0
            · rw [if_pos c19] at H
              have c19b0 : decide (a3 < 0) = true := decide_eq_true c19
              clear c19
              (first | rw [c19b0] | (simp only [i64_w, i32_w]; rw [c19b0]) | skip)
              have H' := Aside0.mk H
              clear H
              have hcz20_0 : w12.cell? ⟨gb276, 0, none⟩ = some (.string a0_0) := (blk_cell BK276.out 0).trans rfl
              have hcz20_1 : w12.cell? ⟨gb276, 1, none⟩ = some (.int .i64 a0_1) := (blk_cell BK276.out 1).trans rfl
              have hcz20_2 : w12.cell? ⟨gb276, 2, none⟩ = some (.int .i64 a0_2) := (blk_cell BK276.out 2).trans rfl
              have hcz20_3 : w12.cell? ⟨gb276, 3, none⟩ = some (.int .i64 a0_3) := (blk_cell BK276.out 3).trans rfl
              have hcz20_4 : w12.cell? ⟨gb276, 4, none⟩ = some (.bool a0_4) := (blk_cell BK276.out 4).trans rfl
              have hcz20_5 : w12.cell? ⟨gb276, 5, none⟩ = some (.bool a0_5) := (blk_cell BK276.out 5).trans rfl
              have hcz20_6 : w12.cell? ⟨gb276, 6, none⟩ = some (.slice A0_6 l0_6.length c0_6) := (blk_cell BK276.out 6).trans rfl
              have hfz20_0 := blk_frozen BK276.out 0
              have hfz20_1 := blk_frozen BK276.out 1
              have hfz20_2 := blk_frozen BK276.out 2
              have hfz20_3 := blk_frozen BK276.out 3
              have hfz20_4 := blk_frozen BK276.out 4
              have hfz20_5 := blk_frozen BK276.out 5
              have hfz20_6 := blk_frozen BK276.out 6
              go_wp2_with (first | ((with_reducible refine gate_callee (f := 11) rfl ?_); refine goesL_ (some 20) rfl rfl Tryz.func11 (by kernel_rfl) rfl #[.agg #[.string a0_0, .int .i64 a0_1, .int .i64 a0_2, .int .i64 a0_3, .bool a0_4, .bool a0_5, .slice A0_6 l0_6.length c0_6]] rfl (by (try simp only [List.map_toArray, List.map_cons, List.map_nil]); first | done | rfl | (simp only [List.length_drop, List.length_take]; rfl)) ?_; (with_reducible refine (pantrylaw12_fit.calls k a0_0 a0_1 a0_2 a0_3 a0_4 a0_5 (fun k_ => k_ < w.heap.size) _ _ l0_6 true _ ?side1 A13.out).mono ?_); (case side1 => exact Kd.V_mk HC0_6.out (Kd.F_below (Kd.C_F Kd.heap_string HR0_6.out) (by repeat (first | (with_reducible first | exact HB.out | apply below_alloc | apply pw_below_drewN | apply below_drew1 | refine below_set ?_ GE276.out) | exact HB.out)))); rintro e w21 ⟨rfl, hb⟩; refine ⟨_, rfl, ?_⟩; have n0_ := Aside0.mk (blk_below (g := gb276) (o := .cells #[.string a0_0, .int .i64 a0_1, .int .i64 a0_2, .int .i64 a0_3, .bool a0_4, .bool a0_5, .slice A0_6 l0_6.length c0_6] 24 (0, 0)) (by (with_reducible repeat (first | refine blk_drewN ?_ _ | refine blk_drew ?_ | refine blk_alloc ?_ _)); exact BK276.out) hb); have n1_ := Aside0.mk (below_step (by repeat (first | (with_reducible first | exact HB.out | apply below_alloc | apply pw_below_drewN | apply below_drew1 | refine below_set ?_ GE276.out) | exact HB.out)) hb); clear BK276; clear HB; have BK276 := n0_; have HB := n1_; clear n0_ n1_; (try clear hb); (try clear hb2); (try clear hk); (try clear hi)) | (go_at_call 12; (with_reducible refine (pantrylaw12_small.calls k _ _ l2 true _ ?side1 ?side2 A15.out).mono ?_); (case side1 => repeat (first | exact (Kd.C_below HR2.out HB.out) | (with_reducible refine Kd.C_alloc ?_ _) | (with_reducible refine Kd.C_drewN ?_ _) | (with_reducible refine Kd.C_drew ?_))); (case side2 => exact HC2.out); rintro e w22 ⟨rfl, hb⟩; have n0_ := Aside0.mk (blk_below (g := gb276) (o := .cells #[.string a0_0, .int .i64 a0_1, .int .i64 a0_2, .int .i64 a0_3, .bool a0_4, .bool a0_5, .slice A0_6 l0_6.length c0_6] 24 (0, 0)) (by (with_reducible repeat (first | refine blk_drewN ?_ _ | refine blk_drew ?_ | refine blk_alloc ?_ _)); exact BK276.out) hb); have n1_ := Aside0.mk (below_step (by repeat (first | (with_reducible first | exact HB.out | apply below_alloc | apply pw_below_drewN | apply below_drew1 | refine below_set ?_ GE276.out) | exact HB.out)) hb); clear BK276; clear HB; have BK276 := n0_; have HB := n1_; clear n0_ n1_; (try clear hb); (try clear hb2); (try clear hk); (try clear hi)) | (go_at_call 12; (with_reducible refine (pantrylaw12_small.calls k _ _ l1 true _ ?side1 ?side2 A17.out).mono ?_); (case side1 => repeat (first | exact (Kd.C_below HR1.out HB.out) | (with_reducible refine Kd.C_alloc ?_ _) | (with_reducible refine Kd.C_drewN ?_ _) | (with_reducible refine Kd.C_drew ?_))); (case side2 => exact HC1.out); rintro e w23 ⟨rfl, hb⟩; have n0_ := Aside0.mk (blk_below (g := gb276) (o := .cells #[.string a0_0, .int .i64 a0_1, .int .i64 a0_2, .int .i64 a0_3, .bool a0_4, .bool a0_5, .slice A0_6 l0_6.length c0_6] 24 (0, 0)) (by (with_reducible repeat (first | refine blk_drewN ?_ _ | refine blk_drew ?_ | refine blk_alloc ?_ _)); exact BK276.out) hb); have n1_ := Aside0.mk (below_step (by repeat (first | (with_reducible first | exact HB.out | apply below_alloc | apply pw_below_drewN | apply below_drew1 | refine below_set ?_ GE276.out) | exact HB.out)) hb); clear BK276; clear HB; have BK276 := n0_; have HB := n1_; clear n0_ n1_; (try clear hb); (try clear hb2); (try clear hk); (try clear hi)))
              go_meet
              case rel => exact ⟨_, (true), (by first | rfl | (simp; done) | (simp [*]; done)), H', ⟨by first | omega | exact Nat.le_refl _⟩, ⟨by (with_reducible repeat (first | refine blk_drewN ?_ _ | refine blk_drew ?_ | refine blk_alloc ?_ _)); exact BK276.out⟩, ⟨by repeat (first | (with_reducible first | exact HB.out | apply below_alloc | apply pw_below_drewN | apply below_drew1 | refine below_set ?_ GE276.out) | exact HB.out)⟩⟩
            · rw [if_neg c19] at H
              have c19b0 : decide (a3 < 0) = false := decide_eq_false c19
              clear c19
              (first | rw [c19b0] | (simp only [i64_w, i32_w]; rw [c19b0]) | skip)
              by_cases c24 : a3 > 68719476736
              · rw [if_pos c24] at H
                have c24b0 : decide (68719476736 < a3) = true := decide_eq_true c24
                clear c24
                have H' := Aside0.mk H
                clear H
                have hcz25_0 : w12.cell? ⟨gb276, 0, none⟩ = some (.string a0_0) := (blk_cell BK276.out 0).trans rfl
                have hcz25_1 : w12.cell? ⟨gb276, 1, none⟩ = some (.int .i64 a0_1) := (blk_cell BK276.out 1).trans rfl
                have hcz25_2 : w12.cell? ⟨gb276, 2, none⟩ = some (.int .i64 a0_2) := (blk_cell BK276.out 2).trans rfl
                have hcz25_3 : w12.cell? ⟨gb276, 3, none⟩ = some (.int .i64 a0_3) := (blk_cell BK276.out 3).trans rfl
                have hcz25_4 : w12.cell? ⟨gb276, 4, none⟩ = some (.bool a0_4) := (blk_cell BK276.out 4).trans rfl
                have hcz25_5 : w12.cell? ⟨gb276, 5, none⟩ = some (.bool a0_5) := (blk_cell BK276.out 5).trans rfl
                have hcz25_6 : w12.cell? ⟨gb276, 6, none⟩ = some (.slice A0_6 l0_6.length c0_6) := (blk_cell BK276.out 6).trans rfl
                have hfz25_0 := blk_frozen BK276.out 0
                have hfz25_1 := blk_frozen BK276.out 1
                have hfz25_2 := blk_frozen BK276.out 2
                have hfz25_3 := blk_frozen BK276.out 3
                have hfz25_4 := blk_frozen BK276.out 4
                have hfz25_5 := blk_frozen BK276.out 5
                have hfz25_6 := blk_frozen BK276.out 6
                go_wp2_with (first | ((with_reducible refine gate_callee (f := 11) rfl ?_); refine goesL_ (some 20) rfl rfl Tryz.func11 (by kernel_rfl) rfl #[.agg #[.string a0_0, .int .i64 a0_1, .int .i64 a0_2, .int .i64 a0_3, .bool a0_4, .bool a0_5, .slice A0_6 l0_6.length c0_6]] rfl (by (try simp only [List.map_toArray, List.map_cons, List.map_nil]); first | done | rfl | (simp only [List.length_drop, List.length_take]; rfl)) ?_; (with_reducible refine (pantrylaw12_fit.calls k a0_0 a0_1 a0_2 a0_3 a0_4 a0_5 (fun k_ => k_ < w.heap.size) _ _ l0_6 true _ ?side1 A13.out).mono ?_); (case side1 => exact Kd.V_mk HC0_6.out (Kd.F_below (Kd.C_F Kd.heap_string HR0_6.out) (by repeat (first | (with_reducible first | exact HB.out | apply below_alloc | apply pw_below_drewN | apply below_drew1 | refine below_set ?_ GE276.out) | exact HB.out)))); rintro e w26 ⟨rfl, hb⟩; refine ⟨_, rfl, ?_⟩; have n0_ := Aside0.mk (blk_below (g := gb276) (o := .cells #[.string a0_0, .int .i64 a0_1, .int .i64 a0_2, .int .i64 a0_3, .bool a0_4, .bool a0_5, .slice A0_6 l0_6.length c0_6] 24 (0, 0)) (by (with_reducible repeat (first | refine blk_drewN ?_ _ | refine blk_drew ?_ | refine blk_alloc ?_ _)); exact BK276.out) hb); have n1_ := Aside0.mk (below_step (by repeat (first | (with_reducible first | exact HB.out | apply below_alloc | apply pw_below_drewN | apply below_drew1 | refine below_set ?_ GE276.out) | exact HB.out)) hb); clear BK276; clear HB; have BK276 := n0_; have HB := n1_; clear n0_ n1_; (try clear hb); (try clear hb2); (try clear hk); (try clear hi)) | (go_at_call 12; (with_reducible refine (pantrylaw12_small.calls k _ _ l2 true _ ?side1 ?side2 A15.out).mono ?_); (case side1 => repeat (first | exact (Kd.C_below HR2.out HB.out) | (with_reducible refine Kd.C_alloc ?_ _) | (with_reducible refine Kd.C_drewN ?_ _) | (with_reducible refine Kd.C_drew ?_))); (case side2 => exact HC2.out); rintro e w27 ⟨rfl, hb⟩; have n0_ := Aside0.mk (blk_below (g := gb276) (o := .cells #[.string a0_0, .int .i64 a0_1, .int .i64 a0_2, .int .i64 a0_3, .bool a0_4, .bool a0_5, .slice A0_6 l0_6.length c0_6] 24 (0, 0)) (by (with_reducible repeat (first | refine blk_drewN ?_ _ | refine blk_drew ?_ | refine blk_alloc ?_ _)); exact BK276.out) hb); have n1_ := Aside0.mk (below_step (by repeat (first | (with_reducible first | exact HB.out | apply below_alloc | apply pw_below_drewN | apply below_drew1 | refine below_set ?_ GE276.out) | exact HB.out)) hb); clear BK276; clear HB; have BK276 := n0_; have HB := n1_; clear n0_ n1_; (try clear hb); (try clear hb2); (try clear hk); (try clear hi)) | (go_at_call 12; (with_reducible refine (pantrylaw12_small.calls k _ _ l1 true _ ?side1 ?side2 A17.out).mono ?_); (case side1 => repeat (first | exact (Kd.C_below HR1.out HB.out) | (with_reducible refine Kd.C_alloc ?_ _) | (with_reducible refine Kd.C_drewN ?_ _) | (with_reducible refine Kd.C_drew ?_))); (case side2 => exact HC1.out); rintro e w28 ⟨rfl, hb⟩; have n0_ := Aside0.mk (blk_below (g := gb276) (o := .cells #[.string a0_0, .int .i64 a0_1, .int .i64 a0_2, .int .i64 a0_3, .bool a0_4, .bool a0_5, .slice A0_6 l0_6.length c0_6] 24 (0, 0)) (by (with_reducible repeat (first | refine blk_drewN ?_ _ | refine blk_drew ?_ | refine blk_alloc ?_ _)); exact BK276.out) hb); have n1_ := Aside0.mk (below_step (by repeat (first | (with_reducible first | exact HB.out | apply below_alloc | apply pw_below_drewN | apply below_drew1 | refine below_set ?_ GE276.out) | exact HB.out)) hb); clear BK276; clear HB; have BK276 := n0_; have HB := n1_; clear n0_ n1_; (try clear hb); (try clear hb2); (try clear hk); (try clear hi)))
                go_meet
                case rel => exact ⟨_, (true), (by first | rfl | (simp; done) | (simp [*]; done)), H', ⟨by first | omega | exact Nat.le_refl _⟩, ⟨by (with_reducible repeat (first | refine blk_drewN ?_ _ | refine blk_drew ?_ | refine blk_alloc ?_ _)); exact BK276.out⟩, ⟨by repeat (first | (with_reducible first | exact HB.out | apply below_alloc | apply pw_below_drewN | apply below_drew1 | refine below_set ?_ GE276.out) | exact HB.out)⟩⟩
              · rw [if_neg c24] at H
                have c24b0 : decide (68719476736 < a3) = false := decide_eq_false c24
                clear c24
                by_cases c29 : a4 < a3
                · rw [if_pos c29] at H
                  have c29b0 : decide (a4 < a3) = true := decide_eq_true c29
                  clear c29
                  have H' := Aside0.mk H
                  clear H
                  have hcz30_0 : w12.cell? ⟨gb276, 0, none⟩ = some (.string a0_0) := (blk_cell BK276.out 0).trans rfl
                  have hcz30_1 : w12.cell? ⟨gb276, 1, none⟩ = some (.int .i64 a0_1) := (blk_cell BK276.out 1).trans rfl
                  have hcz30_2 : w12.cell? ⟨gb276, 2, none⟩ = some (.int .i64 a0_2) := (blk_cell BK276.out 2).trans rfl
                  have hcz30_3 : w12.cell? ⟨gb276, 3, none⟩ = some (.int .i64 a0_3) := (blk_cell BK276.out 3).trans rfl
                  have hcz30_4 : w12.cell? ⟨gb276, 4, none⟩ = some (.bool a0_4) := (blk_cell BK276.out 4).trans rfl
                  have hcz30_5 : w12.cell? ⟨gb276, 5, none⟩ = some (.bool a0_5) := (blk_cell BK276.out 5).trans rfl
                  have hcz30_6 : w12.cell? ⟨gb276, 6, none⟩ = some (.slice A0_6 l0_6.length c0_6) := (blk_cell BK276.out 6).trans rfl
                  have hfz30_0 := blk_frozen BK276.out 0
                  have hfz30_1 := blk_frozen BK276.out 1
                  have hfz30_2 := blk_frozen BK276.out 2
                  have hfz30_3 := blk_frozen BK276.out 3
                  have hfz30_4 := blk_frozen BK276.out 4
                  have hfz30_5 := blk_frozen BK276.out 5
                  have hfz30_6 := blk_frozen BK276.out 6
                  go_wp2_with (first | ((with_reducible refine gate_callee (f := 11) rfl ?_); refine goesL_ (some 20) rfl rfl Tryz.func11 (by kernel_rfl) rfl #[.agg #[.string a0_0, .int .i64 a0_1, .int .i64 a0_2, .int .i64 a0_3, .bool a0_4, .bool a0_5, .slice A0_6 l0_6.length c0_6]] rfl (by (try simp only [List.map_toArray, List.map_cons, List.map_nil]); first | done | rfl | (simp only [List.length_drop, List.length_take]; rfl)) ?_; (with_reducible refine (pantrylaw12_fit.calls k a0_0 a0_1 a0_2 a0_3 a0_4 a0_5 (fun k_ => k_ < w.heap.size) _ _ l0_6 true _ ?side1 A13.out).mono ?_); (case side1 => exact Kd.V_mk HC0_6.out (Kd.F_below (Kd.C_F Kd.heap_string HR0_6.out) (by repeat (first | (with_reducible first | exact HB.out | apply below_alloc | apply pw_below_drewN | apply below_drew1 | refine below_set ?_ GE276.out) | exact HB.out)))); rintro e w31 ⟨rfl, hb⟩; refine ⟨_, rfl, ?_⟩; have n0_ := Aside0.mk (blk_below (g := gb276) (o := .cells #[.string a0_0, .int .i64 a0_1, .int .i64 a0_2, .int .i64 a0_3, .bool a0_4, .bool a0_5, .slice A0_6 l0_6.length c0_6] 24 (0, 0)) (by (with_reducible repeat (first | refine blk_drewN ?_ _ | refine blk_drew ?_ | refine blk_alloc ?_ _)); exact BK276.out) hb); have n1_ := Aside0.mk (below_step (by repeat (first | (with_reducible first | exact HB.out | apply below_alloc | apply pw_below_drewN | apply below_drew1 | refine below_set ?_ GE276.out) | exact HB.out)) hb); clear BK276; clear HB; have BK276 := n0_; have HB := n1_; clear n0_ n1_; (try clear hb); (try clear hb2); (try clear hk); (try clear hi)) | (go_at_call 12; (with_reducible refine (pantrylaw12_small.calls k _ _ l2 true _ ?side1 ?side2 A15.out).mono ?_); (case side1 => repeat (first | exact (Kd.C_below HR2.out HB.out) | (with_reducible refine Kd.C_alloc ?_ _) | (with_reducible refine Kd.C_drewN ?_ _) | (with_reducible refine Kd.C_drew ?_))); (case side2 => exact HC2.out); rintro e w32 ⟨rfl, hb⟩; have n0_ := Aside0.mk (blk_below (g := gb276) (o := .cells #[.string a0_0, .int .i64 a0_1, .int .i64 a0_2, .int .i64 a0_3, .bool a0_4, .bool a0_5, .slice A0_6 l0_6.length c0_6] 24 (0, 0)) (by (with_reducible repeat (first | refine blk_drewN ?_ _ | refine blk_drew ?_ | refine blk_alloc ?_ _)); exact BK276.out) hb); have n1_ := Aside0.mk (below_step (by repeat (first | (with_reducible first | exact HB.out | apply below_alloc | apply pw_below_drewN | apply below_drew1 | refine below_set ?_ GE276.out) | exact HB.out)) hb); clear BK276; clear HB; have BK276 := n0_; have HB := n1_; clear n0_ n1_; (try clear hb); (try clear hb2); (try clear hk); (try clear hi)) | (go_at_call 12; (with_reducible refine (pantrylaw12_small.calls k _ _ l1 true _ ?side1 ?side2 A17.out).mono ?_); (case side1 => repeat (first | exact (Kd.C_below HR1.out HB.out) | (with_reducible refine Kd.C_alloc ?_ _) | (with_reducible refine Kd.C_drewN ?_ _) | (with_reducible refine Kd.C_drew ?_))); (case side2 => exact HC1.out); rintro e w33 ⟨rfl, hb⟩; have n0_ := Aside0.mk (blk_below (g := gb276) (o := .cells #[.string a0_0, .int .i64 a0_1, .int .i64 a0_2, .int .i64 a0_3, .bool a0_4, .bool a0_5, .slice A0_6 l0_6.length c0_6] 24 (0, 0)) (by (with_reducible repeat (first | refine blk_drewN ?_ _ | refine blk_drew ?_ | refine blk_alloc ?_ _)); exact BK276.out) hb); have n1_ := Aside0.mk (below_step (by repeat (first | (with_reducible first | exact HB.out | apply below_alloc | apply pw_below_drewN | apply below_drew1 | refine below_set ?_ GE276.out) | exact HB.out)) hb); clear BK276; clear HB; have BK276 := n0_; have HB := n1_; clear n0_ n1_; (try clear hb); (try clear hb2); (try clear hk); (try clear hi)))
                  go_meet
                  case rel => exact ⟨_, (true), (by first | rfl | (simp; done) | (simp [*]; done)), H', ⟨by first | omega | exact Nat.le_refl _⟩, ⟨by (with_reducible repeat (first | refine blk_drewN ?_ _ | refine blk_drew ?_ | refine blk_alloc ?_ _)); exact BK276.out⟩, ⟨by repeat (first | (with_reducible first | exact HB.out | apply below_alloc | apply pw_below_drewN | apply below_drew1 | refine below_set ?_ GE276.out) | exact HB.out)⟩⟩
                · rw [if_neg c29] at H
                  have c29b0 : decide (a4 < a3) = false := decide_eq_false c29
                  clear c29
                  by_cases c34 : a4 > 68719476736
                  · rw [if_pos c34] at H
                    have c34b0 : decide (68719476736 < a4) = true := decide_eq_true c34
                    clear c34
                    have H' := Aside0.mk H
                    clear H
                    have hcz35_0 : w12.cell? ⟨gb276, 0, none⟩ = some (.string a0_0) := (blk_cell BK276.out 0).trans rfl
                    have hcz35_1 : w12.cell? ⟨gb276, 1, none⟩ = some (.int .i64 a0_1) := (blk_cell BK276.out 1).trans rfl
                    have hcz35_2 : w12.cell? ⟨gb276, 2, none⟩ = some (.int .i64 a0_2) := (blk_cell BK276.out 2).trans rfl
                    have hcz35_3 : w12.cell? ⟨gb276, 3, none⟩ = some (.int .i64 a0_3) := (blk_cell BK276.out 3).trans rfl
                    have hcz35_4 : w12.cell? ⟨gb276, 4, none⟩ = some (.bool a0_4) := (blk_cell BK276.out 4).trans rfl
                    have hcz35_5 : w12.cell? ⟨gb276, 5, none⟩ = some (.bool a0_5) := (blk_cell BK276.out 5).trans rfl
                    have hcz35_6 : w12.cell? ⟨gb276, 6, none⟩ = some (.slice A0_6 l0_6.length c0_6) := (blk_cell BK276.out 6).trans rfl
                    have hfz35_0 := blk_frozen BK276.out 0
                    have hfz35_1 := blk_frozen BK276.out 1
                    have hfz35_2 := blk_frozen BK276.out 2
                    have hfz35_3 := blk_frozen BK276.out 3
                    have hfz35_4 := blk_frozen BK276.out 4
                    have hfz35_5 := blk_frozen BK276.out 5
                    have hfz35_6 := blk_frozen BK276.out 6
                    go_wp2_with (first | ((with_reducible refine gate_callee (f := 11) rfl ?_); refine goesL_ (some 20) rfl rfl Tryz.func11 (by kernel_rfl) rfl #[.agg #[.string a0_0, .int .i64 a0_1, .int .i64 a0_2, .int .i64 a0_3, .bool a0_4, .bool a0_5, .slice A0_6 l0_6.length c0_6]] rfl (by (try simp only [List.map_toArray, List.map_cons, List.map_nil]); first | done | rfl | (simp only [List.length_drop, List.length_take]; rfl)) ?_; (with_reducible refine (pantrylaw12_fit.calls k a0_0 a0_1 a0_2 a0_3 a0_4 a0_5 (fun k_ => k_ < w.heap.size) _ _ l0_6 true _ ?side1 A13.out).mono ?_); (case side1 => exact Kd.V_mk HC0_6.out (Kd.F_below (Kd.C_F Kd.heap_string HR0_6.out) (by repeat (first | (with_reducible first | exact HB.out | apply below_alloc | apply pw_below_drewN | apply below_drew1 | refine below_set ?_ GE276.out) | exact HB.out)))); rintro e w36 ⟨rfl, hb⟩; refine ⟨_, rfl, ?_⟩; have n0_ := Aside0.mk (blk_below (g := gb276) (o := .cells #[.string a0_0, .int .i64 a0_1, .int .i64 a0_2, .int .i64 a0_3, .bool a0_4, .bool a0_5, .slice A0_6 l0_6.length c0_6] 24 (0, 0)) (by (with_reducible repeat (first | refine blk_drewN ?_ _ | refine blk_drew ?_ | refine blk_alloc ?_ _)); exact BK276.out) hb); have n1_ := Aside0.mk (below_step (by repeat (first | (with_reducible first | exact HB.out | apply below_alloc | apply pw_below_drewN | apply below_drew1 | refine below_set ?_ GE276.out) | exact HB.out)) hb); clear BK276; clear HB; have BK276 := n0_; have HB := n1_; clear n0_ n1_; (try clear hb); (try clear hb2); (try clear hk); (try clear hi)) | (go_at_call 12; (with_reducible refine (pantrylaw12_small.calls k _ _ l2 true _ ?side1 ?side2 A15.out).mono ?_); (case side1 => repeat (first | exact (Kd.C_below HR2.out HB.out) | (with_reducible refine Kd.C_alloc ?_ _) | (with_reducible refine Kd.C_drewN ?_ _) | (with_reducible refine Kd.C_drew ?_))); (case side2 => exact HC2.out); rintro e w37 ⟨rfl, hb⟩; have n0_ := Aside0.mk (blk_below (g := gb276) (o := .cells #[.string a0_0, .int .i64 a0_1, .int .i64 a0_2, .int .i64 a0_3, .bool a0_4, .bool a0_5, .slice A0_6 l0_6.length c0_6] 24 (0, 0)) (by (with_reducible repeat (first | refine blk_drewN ?_ _ | refine blk_drew ?_ | refine blk_alloc ?_ _)); exact BK276.out) hb); have n1_ := Aside0.mk (below_step (by repeat (first | (with_reducible first | exact HB.out | apply below_alloc | apply pw_below_drewN | apply below_drew1 | refine below_set ?_ GE276.out) | exact HB.out)) hb); clear BK276; clear HB; have BK276 := n0_; have HB := n1_; clear n0_ n1_; (try clear hb); (try clear hb2); (try clear hk); (try clear hi)) | (go_at_call 12; (with_reducible refine (pantrylaw12_small.calls k _ _ l1 true _ ?side1 ?side2 A17.out).mono ?_); (case side1 => repeat (first | exact (Kd.C_below HR1.out HB.out) | (with_reducible refine Kd.C_alloc ?_ _) | (with_reducible refine Kd.C_drewN ?_ _) | (with_reducible refine Kd.C_drew ?_))); (case side2 => exact HC1.out); rintro e w38 ⟨rfl, hb⟩; have n0_ := Aside0.mk (blk_below (g := gb276) (o := .cells #[.string a0_0, .int .i64 a0_1, .int .i64 a0_2, .int .i64 a0_3, .bool a0_4, .bool a0_5, .slice A0_6 l0_6.length c0_6] 24 (0, 0)) (by (with_reducible repeat (first | refine blk_drewN ?_ _ | refine blk_drew ?_ | refine blk_alloc ?_ _)); exact BK276.out) hb); have n1_ := Aside0.mk (below_step (by repeat (first | (with_reducible first | exact HB.out | apply below_alloc | apply pw_below_drewN | apply below_drew1 | refine below_set ?_ GE276.out) | exact HB.out)) hb); clear BK276; clear HB; have BK276 := n0_; have HB := n1_; clear n0_ n1_; (try clear hb); (try clear hb2); (try clear hk); (try clear hi)))
                    go_meet
                    case rel => exact ⟨_, (true), (by first | rfl | (simp; done) | (simp [*]; done)), H', ⟨by first | omega | exact Nat.le_refl _⟩, ⟨by (with_reducible repeat (first | refine blk_drewN ?_ _ | refine blk_drew ?_ | refine blk_alloc ?_ _)); exact BK276.out⟩, ⟨by repeat (first | (with_reducible first | exact HB.out | apply below_alloc | apply pw_below_drewN | apply below_drew1 | refine below_set ?_ GE276.out) | exact HB.out)⟩⟩
                  · rw [if_neg c34] at H
                    have c34b0 : decide (68719476736 < a4) = false := decide_eq_false c34
                    clear c34
                    by_cases c39 : a5 < a4
                    · rw [if_pos c39] at H
                      have c39b0 : decide (a5 < a4) = true := decide_eq_true c39
                      clear c39
                      have H' := Aside0.mk H
                      clear H
                      have hcz40_0 : w12.cell? ⟨gb276, 0, none⟩ = some (.string a0_0) := (blk_cell BK276.out 0).trans rfl
                      have hcz40_1 : w12.cell? ⟨gb276, 1, none⟩ = some (.int .i64 a0_1) := (blk_cell BK276.out 1).trans rfl
                      have hcz40_2 : w12.cell? ⟨gb276, 2, none⟩ = some (.int .i64 a0_2) := (blk_cell BK276.out 2).trans rfl
                      have hcz40_3 : w12.cell? ⟨gb276, 3, none⟩ = some (.int .i64 a0_3) := (blk_cell BK276.out 3).trans rfl
                      have hcz40_4 : w12.cell? ⟨gb276, 4, none⟩ = some (.bool a0_4) := (blk_cell BK276.out 4).trans rfl
                      have hcz40_5 : w12.cell? ⟨gb276, 5, none⟩ = some (.bool a0_5) := (blk_cell BK276.out 5).trans rfl
                      have hcz40_6 : w12.cell? ⟨gb276, 6, none⟩ = some (.slice A0_6 l0_6.length c0_6) := (blk_cell BK276.out 6).trans rfl
                      have hfz40_0 := blk_frozen BK276.out 0
                      have hfz40_1 := blk_frozen BK276.out 1
                      have hfz40_2 := blk_frozen BK276.out 2
                      have hfz40_3 := blk_frozen BK276.out 3
                      have hfz40_4 := blk_frozen BK276.out 4
                      have hfz40_5 := blk_frozen BK276.out 5
                      have hfz40_6 := blk_frozen BK276.out 6
                      go_wp2_with (first | ((with_reducible refine gate_callee (f := 11) rfl ?_); refine goesL_ (some 20) rfl rfl Tryz.func11 (by kernel_rfl) rfl #[.agg #[.string a0_0, .int .i64 a0_1, .int .i64 a0_2, .int .i64 a0_3, .bool a0_4, .bool a0_5, .slice A0_6 l0_6.length c0_6]] rfl (by (try simp only [List.map_toArray, List.map_cons, List.map_nil]); first | done | rfl | (simp only [List.length_drop, List.length_take]; rfl)) ?_; (with_reducible refine (pantrylaw12_fit.calls k a0_0 a0_1 a0_2 a0_3 a0_4 a0_5 (fun k_ => k_ < w.heap.size) _ _ l0_6 true _ ?side1 A13.out).mono ?_); (case side1 => exact Kd.V_mk HC0_6.out (Kd.F_below (Kd.C_F Kd.heap_string HR0_6.out) (by repeat (first | (with_reducible first | exact HB.out | apply below_alloc | apply pw_below_drewN | apply below_drew1 | refine below_set ?_ GE276.out) | exact HB.out)))); rintro e w41 ⟨rfl, hb⟩; refine ⟨_, rfl, ?_⟩; have n0_ := Aside0.mk (blk_below (g := gb276) (o := .cells #[.string a0_0, .int .i64 a0_1, .int .i64 a0_2, .int .i64 a0_3, .bool a0_4, .bool a0_5, .slice A0_6 l0_6.length c0_6] 24 (0, 0)) (by (with_reducible repeat (first | refine blk_drewN ?_ _ | refine blk_drew ?_ | refine blk_alloc ?_ _)); exact BK276.out) hb); have n1_ := Aside0.mk (below_step (by repeat (first | (with_reducible first | exact HB.out | apply below_alloc | apply pw_below_drewN | apply below_drew1 | refine below_set ?_ GE276.out) | exact HB.out)) hb); clear BK276; clear HB; have BK276 := n0_; have HB := n1_; clear n0_ n1_; (try clear hb); (try clear hb2); (try clear hk); (try clear hi)) | (go_at_call 12; (with_reducible refine (pantrylaw12_small.calls k _ _ l2 true _ ?side1 ?side2 A15.out).mono ?_); (case side1 => repeat (first | exact (Kd.C_below HR2.out HB.out) | (with_reducible refine Kd.C_alloc ?_ _) | (with_reducible refine Kd.C_drewN ?_ _) | (with_reducible refine Kd.C_drew ?_))); (case side2 => exact HC2.out); rintro e w42 ⟨rfl, hb⟩; have n0_ := Aside0.mk (blk_below (g := gb276) (o := .cells #[.string a0_0, .int .i64 a0_1, .int .i64 a0_2, .int .i64 a0_3, .bool a0_4, .bool a0_5, .slice A0_6 l0_6.length c0_6] 24 (0, 0)) (by (with_reducible repeat (first | refine blk_drewN ?_ _ | refine blk_drew ?_ | refine blk_alloc ?_ _)); exact BK276.out) hb); have n1_ := Aside0.mk (below_step (by repeat (first | (with_reducible first | exact HB.out | apply below_alloc | apply pw_below_drewN | apply below_drew1 | refine below_set ?_ GE276.out) | exact HB.out)) hb); clear BK276; clear HB; have BK276 := n0_; have HB := n1_; clear n0_ n1_; (try clear hb); (try clear hb2); (try clear hk); (try clear hi)) | (go_at_call 12; (with_reducible refine (pantrylaw12_small.calls k _ _ l1 true _ ?side1 ?side2 A17.out).mono ?_); (case side1 => repeat (first | exact (Kd.C_below HR1.out HB.out) | (with_reducible refine Kd.C_alloc ?_ _) | (with_reducible refine Kd.C_drewN ?_ _) | (with_reducible refine Kd.C_drew ?_))); (case side2 => exact HC1.out); rintro e w43 ⟨rfl, hb⟩; have n0_ := Aside0.mk (blk_below (g := gb276) (o := .cells #[.string a0_0, .int .i64 a0_1, .int .i64 a0_2, .int .i64 a0_3, .bool a0_4, .bool a0_5, .slice A0_6 l0_6.length c0_6] 24 (0, 0)) (by (with_reducible repeat (first | refine blk_drewN ?_ _ | refine blk_drew ?_ | refine blk_alloc ?_ _)); exact BK276.out) hb); have n1_ := Aside0.mk (below_step (by repeat (first | (with_reducible first | exact HB.out | apply below_alloc | apply pw_below_drewN | apply below_drew1 | refine below_set ?_ GE276.out) | exact HB.out)) hb); clear BK276; clear HB; have BK276 := n0_; have HB := n1_; clear n0_ n1_; (try clear hb); (try clear hb2); (try clear hk); (try clear hi)))
                      go_meet
                      case rel => exact ⟨_, (true), (by first | rfl | (simp; done) | (simp [*]; done)), H', ⟨by first | omega | exact Nat.le_refl _⟩, ⟨by (with_reducible repeat (first | refine blk_drewN ?_ _ | refine blk_drew ?_ | refine blk_alloc ?_ _)); exact BK276.out⟩, ⟨by repeat (first | (with_reducible first | exact HB.out | apply below_alloc | apply pw_below_drewN | apply below_drew1 | refine below_set ?_ GE276.out) | exact HB.out)⟩⟩
                    · rw [if_neg c39] at H
                      have c39b0 : decide (a5 < a4) = false := decide_eq_false c39
                      clear c39
                      by_cases c44 : a5 > 68719476736
                      · rw [if_pos c44] at H
                        have c44b0 : decide (68719476736 < a5) = true := decide_eq_true c44
                        clear c44
                        have H' := Aside0.mk H
                        clear H
                        have hcz45_0 : w12.cell? ⟨gb276, 0, none⟩ = some (.string a0_0) := (blk_cell BK276.out 0).trans rfl
                        have hcz45_1 : w12.cell? ⟨gb276, 1, none⟩ = some (.int .i64 a0_1) := (blk_cell BK276.out 1).trans rfl
                        have hcz45_2 : w12.cell? ⟨gb276, 2, none⟩ = some (.int .i64 a0_2) := (blk_cell BK276.out 2).trans rfl
                        have hcz45_3 : w12.cell? ⟨gb276, 3, none⟩ = some (.int .i64 a0_3) := (blk_cell BK276.out 3).trans rfl
                        have hcz45_4 : w12.cell? ⟨gb276, 4, none⟩ = some (.bool a0_4) := (blk_cell BK276.out 4).trans rfl
                        have hcz45_5 : w12.cell? ⟨gb276, 5, none⟩ = some (.bool a0_5) := (blk_cell BK276.out 5).trans rfl
                        have hcz45_6 : w12.cell? ⟨gb276, 6, none⟩ = some (.slice A0_6 l0_6.length c0_6) := (blk_cell BK276.out 6).trans rfl
                        have hfz45_0 := blk_frozen BK276.out 0
                        have hfz45_1 := blk_frozen BK276.out 1
                        have hfz45_2 := blk_frozen BK276.out 2
                        have hfz45_3 := blk_frozen BK276.out 3
                        have hfz45_4 := blk_frozen BK276.out 4
                        have hfz45_5 := blk_frozen BK276.out 5
                        have hfz45_6 := blk_frozen BK276.out 6
                        go_wp2_with (first | ((with_reducible refine gate_callee (f := 11) rfl ?_); refine goesL_ (some 20) rfl rfl Tryz.func11 (by kernel_rfl) rfl #[.agg #[.string a0_0, .int .i64 a0_1, .int .i64 a0_2, .int .i64 a0_3, .bool a0_4, .bool a0_5, .slice A0_6 l0_6.length c0_6]] rfl (by (try simp only [List.map_toArray, List.map_cons, List.map_nil]); first | done | rfl | (simp only [List.length_drop, List.length_take]; rfl)) ?_; (with_reducible refine (pantrylaw12_fit.calls k a0_0 a0_1 a0_2 a0_3 a0_4 a0_5 (fun k_ => k_ < w.heap.size) _ _ l0_6 true _ ?side1 A13.out).mono ?_); (case side1 => exact Kd.V_mk HC0_6.out (Kd.F_below (Kd.C_F Kd.heap_string HR0_6.out) (by repeat (first | (with_reducible first | exact HB.out | apply below_alloc | apply pw_below_drewN | apply below_drew1 | refine below_set ?_ GE276.out) | exact HB.out)))); rintro e w46 ⟨rfl, hb⟩; refine ⟨_, rfl, ?_⟩; have n0_ := Aside0.mk (blk_below (g := gb276) (o := .cells #[.string a0_0, .int .i64 a0_1, .int .i64 a0_2, .int .i64 a0_3, .bool a0_4, .bool a0_5, .slice A0_6 l0_6.length c0_6] 24 (0, 0)) (by (with_reducible repeat (first | refine blk_drewN ?_ _ | refine blk_drew ?_ | refine blk_alloc ?_ _)); exact BK276.out) hb); have n1_ := Aside0.mk (below_step (by repeat (first | (with_reducible first | exact HB.out | apply below_alloc | apply pw_below_drewN | apply below_drew1 | refine below_set ?_ GE276.out) | exact HB.out)) hb); clear BK276; clear HB; have BK276 := n0_; have HB := n1_; clear n0_ n1_; (try clear hb); (try clear hb2); (try clear hk); (try clear hi)) | (go_at_call 12; (with_reducible refine (pantrylaw12_small.calls k _ _ l2 true _ ?side1 ?side2 A15.out).mono ?_); (case side1 => repeat (first | exact (Kd.C_below HR2.out HB.out) | (with_reducible refine Kd.C_alloc ?_ _) | (with_reducible refine Kd.C_drewN ?_ _) | (with_reducible refine Kd.C_drew ?_))); (case side2 => exact HC2.out); rintro e w47 ⟨rfl, hb⟩; have n0_ := Aside0.mk (blk_below (g := gb276) (o := .cells #[.string a0_0, .int .i64 a0_1, .int .i64 a0_2, .int .i64 a0_3, .bool a0_4, .bool a0_5, .slice A0_6 l0_6.length c0_6] 24 (0, 0)) (by (with_reducible repeat (first | refine blk_drewN ?_ _ | refine blk_drew ?_ | refine blk_alloc ?_ _)); exact BK276.out) hb); have n1_ := Aside0.mk (below_step (by repeat (first | (with_reducible first | exact HB.out | apply below_alloc | apply pw_below_drewN | apply below_drew1 | refine below_set ?_ GE276.out) | exact HB.out)) hb); clear BK276; clear HB; have BK276 := n0_; have HB := n1_; clear n0_ n1_; (try clear hb); (try clear hb2); (try clear hk); (try clear hi)) | (go_at_call 12; (with_reducible refine (pantrylaw12_small.calls k _ _ l1 true _ ?side1 ?side2 A17.out).mono ?_); (case side1 => repeat (first | exact (Kd.C_below HR1.out HB.out) | (with_reducible refine Kd.C_alloc ?_ _) | (with_reducible refine Kd.C_drewN ?_ _) | (with_reducible refine Kd.C_drew ?_))); (case side2 => exact HC1.out); rintro e w48 ⟨rfl, hb⟩; have n0_ := Aside0.mk (blk_below (g := gb276) (o := .cells #[.string a0_0, .int .i64 a0_1, .int .i64 a0_2, .int .i64 a0_3, .bool a0_4, .bool a0_5, .slice A0_6 l0_6.length c0_6] 24 (0, 0)) (by (with_reducible repeat (first | refine blk_drewN ?_ _ | refine blk_drew ?_ | refine blk_alloc ?_ _)); exact BK276.out) hb); have n1_ := Aside0.mk (below_step (by repeat (first | (with_reducible first | exact HB.out | apply below_alloc | apply pw_below_drewN | apply below_drew1 | refine below_set ?_ GE276.out) | exact HB.out)) hb); clear BK276; clear HB; have BK276 := n0_; have HB := n1_; clear n0_ n1_; (try clear hb); (try clear hb2); (try clear hk); (try clear hi)))
                        go_meet
                        case rel => exact ⟨_, (true), (by first | rfl | (simp; done) | (simp [*]; done)), H', ⟨by first | omega | exact Nat.le_refl _⟩, ⟨by (with_reducible repeat (first | refine blk_drewN ?_ _ | refine blk_drew ?_ | refine blk_alloc ?_ _)); exact BK276.out⟩, ⟨by repeat (first | (with_reducible first | exact HB.out | apply below_alloc | apply pw_below_drewN | apply below_drew1 | refine below_set ?_ GE276.out) | exact HB.out)⟩⟩
                      · rw [if_neg c44] at H
                        have c44b0 : decide (68719476736 < a5) = false := decide_eq_false c44
                        clear c44
                        by_cases c49 : a6 < 0
                        · rw [if_pos c49] at H
                          have c49b0 : decide (a6 < 0) = true := decide_eq_true c49
                          clear c49
                          have H' := Aside0.mk H
                          clear H
                          have hcz50_0 : w12.cell? ⟨gb276, 0, none⟩ = some (.string a0_0) := (blk_cell BK276.out 0).trans rfl
                          have hcz50_1 : w12.cell? ⟨gb276, 1, none⟩ = some (.int .i64 a0_1) := (blk_cell BK276.out 1).trans rfl
                          have hcz50_2 : w12.cell? ⟨gb276, 2, none⟩ = some (.int .i64 a0_2) := (blk_cell BK276.out 2).trans rfl
                          have hcz50_3 : w12.cell? ⟨gb276, 3, none⟩ = some (.int .i64 a0_3) := (blk_cell BK276.out 3).trans rfl
                          have hcz50_4 : w12.cell? ⟨gb276, 4, none⟩ = some (.bool a0_4) := (blk_cell BK276.out 4).trans rfl
                          have hcz50_5 : w12.cell? ⟨gb276, 5, none⟩ = some (.bool a0_5) := (blk_cell BK276.out 5).trans rfl
                          have hcz50_6 : w12.cell? ⟨gb276, 6, none⟩ = some (.slice A0_6 l0_6.length c0_6) := (blk_cell BK276.out 6).trans rfl
                          have hfz50_0 := blk_frozen BK276.out 0
                          have hfz50_1 := blk_frozen BK276.out 1
                          have hfz50_2 := blk_frozen BK276.out 2
                          have hfz50_3 := blk_frozen BK276.out 3
                          have hfz50_4 := blk_frozen BK276.out 4
                          have hfz50_5 := blk_frozen BK276.out 5
                          have hfz50_6 := blk_frozen BK276.out 6
                          go_wp2_with (first | ((with_reducible refine gate_callee (f := 11) rfl ?_); refine goesL_ (some 20) rfl rfl Tryz.func11 (by kernel_rfl) rfl #[.agg #[.string a0_0, .int .i64 a0_1, .int .i64 a0_2, .int .i64 a0_3, .bool a0_4, .bool a0_5, .slice A0_6 l0_6.length c0_6]] rfl (by (try simp only [List.map_toArray, List.map_cons, List.map_nil]); first | done | rfl | (simp only [List.length_drop, List.length_take]; rfl)) ?_; (with_reducible refine (pantrylaw12_fit.calls k a0_0 a0_1 a0_2 a0_3 a0_4 a0_5 (fun k_ => k_ < w.heap.size) _ _ l0_6 true _ ?side1 A13.out).mono ?_); (case side1 => exact Kd.V_mk HC0_6.out (Kd.F_below (Kd.C_F Kd.heap_string HR0_6.out) (by repeat (first | (with_reducible first | exact HB.out | apply below_alloc | apply pw_below_drewN | apply below_drew1 | refine below_set ?_ GE276.out) | exact HB.out)))); rintro e w51 ⟨rfl, hb⟩; refine ⟨_, rfl, ?_⟩; have n0_ := Aside0.mk (blk_below (g := gb276) (o := .cells #[.string a0_0, .int .i64 a0_1, .int .i64 a0_2, .int .i64 a0_3, .bool a0_4, .bool a0_5, .slice A0_6 l0_6.length c0_6] 24 (0, 0)) (by (with_reducible repeat (first | refine blk_drewN ?_ _ | refine blk_drew ?_ | refine blk_alloc ?_ _)); exact BK276.out) hb); have n1_ := Aside0.mk (below_step (by repeat (first | (with_reducible first | exact HB.out | apply below_alloc | apply pw_below_drewN | apply below_drew1 | refine below_set ?_ GE276.out) | exact HB.out)) hb); clear BK276; clear HB; have BK276 := n0_; have HB := n1_; clear n0_ n1_; (try clear hb); (try clear hb2); (try clear hk); (try clear hi)) | (go_at_call 12; (with_reducible refine (pantrylaw12_small.calls k _ _ l2 true _ ?side1 ?side2 A15.out).mono ?_); (case side1 => repeat (first | exact (Kd.C_below HR2.out HB.out) | (with_reducible refine Kd.C_alloc ?_ _) | (with_reducible refine Kd.C_drewN ?_ _) | (with_reducible refine Kd.C_drew ?_))); (case side2 => exact HC2.out); rintro e w52 ⟨rfl, hb⟩; have n0_ := Aside0.mk (blk_below (g := gb276) (o := .cells #[.string a0_0, .int .i64 a0_1, .int .i64 a0_2, .int .i64 a0_3, .bool a0_4, .bool a0_5, .slice A0_6 l0_6.length c0_6] 24 (0, 0)) (by (with_reducible repeat (first | refine blk_drewN ?_ _ | refine blk_drew ?_ | refine blk_alloc ?_ _)); exact BK276.out) hb); have n1_ := Aside0.mk (below_step (by repeat (first | (with_reducible first | exact HB.out | apply below_alloc | apply pw_below_drewN | apply below_drew1 | refine below_set ?_ GE276.out) | exact HB.out)) hb); clear BK276; clear HB; have BK276 := n0_; have HB := n1_; clear n0_ n1_; (try clear hb); (try clear hb2); (try clear hk); (try clear hi)) | (go_at_call 12; (with_reducible refine (pantrylaw12_small.calls k _ _ l1 true _ ?side1 ?side2 A17.out).mono ?_); (case side1 => repeat (first | exact (Kd.C_below HR1.out HB.out) | (with_reducible refine Kd.C_alloc ?_ _) | (with_reducible refine Kd.C_drewN ?_ _) | (with_reducible refine Kd.C_drew ?_))); (case side2 => exact HC1.out); rintro e w53 ⟨rfl, hb⟩; have n0_ := Aside0.mk (blk_below (g := gb276) (o := .cells #[.string a0_0, .int .i64 a0_1, .int .i64 a0_2, .int .i64 a0_3, .bool a0_4, .bool a0_5, .slice A0_6 l0_6.length c0_6] 24 (0, 0)) (by (with_reducible repeat (first | refine blk_drewN ?_ _ | refine blk_drew ?_ | refine blk_alloc ?_ _)); exact BK276.out) hb); have n1_ := Aside0.mk (below_step (by repeat (first | (with_reducible first | exact HB.out | apply below_alloc | apply pw_below_drewN | apply below_drew1 | refine below_set ?_ GE276.out) | exact HB.out)) hb); clear BK276; clear HB; have BK276 := n0_; have HB := n1_; clear n0_ n1_; (try clear hb); (try clear hb2); (try clear hk); (try clear hi)))
                          go_meet
                          case rel => exact ⟨_, (true), (by first | rfl | (simp; done) | (simp [*]; done)), H', ⟨by first | omega | exact Nat.le_refl _⟩, ⟨by (with_reducible repeat (first | refine blk_drewN ?_ _ | refine blk_drew ?_ | refine blk_alloc ?_ _)); exact BK276.out⟩, ⟨by repeat (first | (with_reducible first | exact HB.out | apply below_alloc | apply pw_below_drewN | apply below_drew1 | refine below_set ?_ GE276.out) | exact HB.out)⟩⟩
                        · rw [if_neg c49] at H
                          have c49b0 : decide (a6 < 0) = false := decide_eq_false c49
                          clear c49
                          have H' := Aside0.mk H
                          clear H
                          have hcz54_0 : w12.cell? ⟨gb276, 0, none⟩ = some (.string a0_0) := (blk_cell BK276.out 0).trans rfl
                          have hcz54_1 : w12.cell? ⟨gb276, 1, none⟩ = some (.int .i64 a0_1) := (blk_cell BK276.out 1).trans rfl
                          have hcz54_2 : w12.cell? ⟨gb276, 2, none⟩ = some (.int .i64 a0_2) := (blk_cell BK276.out 2).trans rfl
                          have hcz54_3 : w12.cell? ⟨gb276, 3, none⟩ = some (.int .i64 a0_3) := (blk_cell BK276.out 3).trans rfl
                          have hcz54_4 : w12.cell? ⟨gb276, 4, none⟩ = some (.bool a0_4) := (blk_cell BK276.out 4).trans rfl
                          have hcz54_5 : w12.cell? ⟨gb276, 5, none⟩ = some (.bool a0_5) := (blk_cell BK276.out 5).trans rfl
                          have hcz54_6 : w12.cell? ⟨gb276, 6, none⟩ = some (.slice A0_6 l0_6.length c0_6) := (blk_cell BK276.out 6).trans rfl
                          have hfz54_0 := blk_frozen BK276.out 0
                          have hfz54_1 := blk_frozen BK276.out 1
                          have hfz54_2 := blk_frozen BK276.out 2
                          have hfz54_3 := blk_frozen BK276.out 3
                          have hfz54_4 := blk_frozen BK276.out 4
                          have hfz54_5 := blk_frozen BK276.out 5
                          have hfz54_6 := blk_frozen BK276.out 6
                          go_wp2_with (first | ((with_reducible refine gate_callee (f := 11) rfl ?_); refine goesL_ (some 20) rfl rfl Tryz.func11 (by kernel_rfl) rfl #[.agg #[.string a0_0, .int .i64 a0_1, .int .i64 a0_2, .int .i64 a0_3, .bool a0_4, .bool a0_5, .slice A0_6 l0_6.length c0_6]] rfl (by (try simp only [List.map_toArray, List.map_cons, List.map_nil]); first | done | rfl | (simp only [List.length_drop, List.length_take]; rfl)) ?_; (with_reducible refine (pantrylaw12_fit.calls k a0_0 a0_1 a0_2 a0_3 a0_4 a0_5 (fun k_ => k_ < w.heap.size) _ _ l0_6 true _ ?side1 A13.out).mono ?_); (case side1 => exact Kd.V_mk HC0_6.out (Kd.F_below (Kd.C_F Kd.heap_string HR0_6.out) (by repeat (first | (with_reducible first | exact HB.out | apply below_alloc | apply pw_below_drewN | apply below_drew1 | refine below_set ?_ GE276.out) | exact HB.out)))); rintro e w55 ⟨rfl, hb⟩; refine ⟨_, rfl, ?_⟩; have n0_ := Aside0.mk (blk_below (g := gb276) (o := .cells #[.string a0_0, .int .i64 a0_1, .int .i64 a0_2, .int .i64 a0_3, .bool a0_4, .bool a0_5, .slice A0_6 l0_6.length c0_6] 24 (0, 0)) (by (with_reducible repeat (first | refine blk_drewN ?_ _ | refine blk_drew ?_ | refine blk_alloc ?_ _)); exact BK276.out) hb); have n1_ := Aside0.mk (below_step (by repeat (first | (with_reducible first | exact HB.out | apply below_alloc | apply pw_below_drewN | apply below_drew1 | refine below_set ?_ GE276.out) | exact HB.out)) hb); clear BK276; clear HB; have BK276 := n0_; have HB := n1_; clear n0_ n1_; (try clear hb); (try clear hb2); (try clear hk); (try clear hi)) | (go_at_call 12; (with_reducible refine (pantrylaw12_small.calls k _ _ l2 true _ ?side1 ?side2 A15.out).mono ?_); (case side1 => repeat (first | exact (Kd.C_below HR2.out HB.out) | (with_reducible refine Kd.C_alloc ?_ _) | (with_reducible refine Kd.C_drewN ?_ _) | (with_reducible refine Kd.C_drew ?_))); (case side2 => exact HC2.out); rintro e w56 ⟨rfl, hb⟩; have n0_ := Aside0.mk (blk_below (g := gb276) (o := .cells #[.string a0_0, .int .i64 a0_1, .int .i64 a0_2, .int .i64 a0_3, .bool a0_4, .bool a0_5, .slice A0_6 l0_6.length c0_6] 24 (0, 0)) (by (with_reducible repeat (first | refine blk_drewN ?_ _ | refine blk_drew ?_ | refine blk_alloc ?_ _)); exact BK276.out) hb); have n1_ := Aside0.mk (below_step (by repeat (first | (with_reducible first | exact HB.out | apply below_alloc | apply pw_below_drewN | apply below_drew1 | refine below_set ?_ GE276.out) | exact HB.out)) hb); clear BK276; clear HB; have BK276 := n0_; have HB := n1_; clear n0_ n1_; (try clear hb); (try clear hb2); (try clear hk); (try clear hi)) | (go_at_call 12; (with_reducible refine (pantrylaw12_small.calls k _ _ l1 true _ ?side1 ?side2 A17.out).mono ?_); (case side1 => repeat (first | exact (Kd.C_below HR1.out HB.out) | (with_reducible refine Kd.C_alloc ?_ _) | (with_reducible refine Kd.C_drewN ?_ _) | (with_reducible refine Kd.C_drew ?_))); (case side2 => exact HC1.out); rintro e w57 ⟨rfl, hb⟩; have n0_ := Aside0.mk (blk_below (g := gb276) (o := .cells #[.string a0_0, .int .i64 a0_1, .int .i64 a0_2, .int .i64 a0_3, .bool a0_4, .bool a0_5, .slice A0_6 l0_6.length c0_6] 24 (0, 0)) (by (with_reducible repeat (first | refine blk_drewN ?_ _ | refine blk_drew ?_ | refine blk_alloc ?_ _)); exact BK276.out) hb); have n1_ := Aside0.mk (below_step (by repeat (first | (with_reducible first | exact HB.out | apply below_alloc | apply pw_below_drewN | apply below_drew1 | refine below_set ?_ GE276.out) | exact HB.out)) hb); clear BK276; clear HB; have BK276 := n0_; have HB := n1_; clear n0_ n1_; (try clear hb); (try clear hb2); (try clear hk); (try clear hi)))
                          go_meet
                          case rel => exact ⟨_, (decide (a6 > 68719476736)), (by first | rfl | (simp; done) | (simp [*]; done)), H', ⟨by first | omega | exact Nat.le_refl _⟩, ⟨by (with_reducible repeat (first | refine blk_drewN ?_ _ | refine blk_drew ?_ | refine blk_alloc ?_ _)); exact BK276.out⟩, ⟨by repeat (first | (with_reducible first | exact HB.out | apply below_alloc | apply pw_below_drewN | apply below_drew1 | refine below_set ?_ GE276.out) | exact HB.out)⟩⟩
          · replace c18 := Bool.eq_false_iff.mpr c18
            subst c18
            have H1 : (pantrylaw12_FreshOlder.j0 k l1 l2 a3 a4 a5 a6 true a0_0 a0_1 a0_2 a0_3 a0_4 a0_5 l0_6) = some r := by rw [if_neg (show ¬ (false = true) by decide)] at H; exact H
            clear H
            have H := H1
            clear H1
            have H' := Aside0.mk H
            clear H
            have hcz58_0 : w12.cell? ⟨gb276, 0, none⟩ = some (.string a0_0) := (blk_cell BK276.out 0).trans rfl
            have hcz58_1 : w12.cell? ⟨gb276, 1, none⟩ = some (.int .i64 a0_1) := (blk_cell BK276.out 1).trans rfl
            have hcz58_2 : w12.cell? ⟨gb276, 2, none⟩ = some (.int .i64 a0_2) := (blk_cell BK276.out 2).trans rfl
            have hcz58_3 : w12.cell? ⟨gb276, 3, none⟩ = some (.int .i64 a0_3) := (blk_cell BK276.out 3).trans rfl
            have hcz58_4 : w12.cell? ⟨gb276, 4, none⟩ = some (.bool a0_4) := (blk_cell BK276.out 4).trans rfl
            have hcz58_5 : w12.cell? ⟨gb276, 5, none⟩ = some (.bool a0_5) := (blk_cell BK276.out 5).trans rfl
            have hcz58_6 : w12.cell? ⟨gb276, 6, none⟩ = some (.slice A0_6 l0_6.length c0_6) := (blk_cell BK276.out 6).trans rfl
            have hfz58_0 := blk_frozen BK276.out 0
            have hfz58_1 := blk_frozen BK276.out 1
            have hfz58_2 := blk_frozen BK276.out 2
            have hfz58_3 := blk_frozen BK276.out 3
            have hfz58_4 := blk_frozen BK276.out 4
            have hfz58_5 := blk_frozen BK276.out 5
            have hfz58_6 := blk_frozen BK276.out 6
            go_wp2_with (first | ((with_reducible refine gate_callee (f := 11) rfl ?_); refine goesL_ (some 20) rfl rfl Tryz.func11 (by kernel_rfl) rfl #[.agg #[.string a0_0, .int .i64 a0_1, .int .i64 a0_2, .int .i64 a0_3, .bool a0_4, .bool a0_5, .slice A0_6 l0_6.length c0_6]] rfl (by (try simp only [List.map_toArray, List.map_cons, List.map_nil]); first | done | rfl | (simp only [List.length_drop, List.length_take]; rfl)) ?_; (with_reducible refine (pantrylaw12_fit.calls k a0_0 a0_1 a0_2 a0_3 a0_4 a0_5 (fun k_ => k_ < w.heap.size) _ _ l0_6 true _ ?side1 A13.out).mono ?_); (case side1 => exact Kd.V_mk HC0_6.out (Kd.F_below (Kd.C_F Kd.heap_string HR0_6.out) (by repeat (first | (with_reducible first | exact HB.out | apply below_alloc | apply pw_below_drewN | apply below_drew1 | refine below_set ?_ GE276.out) | exact HB.out)))); rintro e w59 ⟨rfl, hb⟩; refine ⟨_, rfl, ?_⟩; have n0_ := Aside0.mk (blk_below (g := gb276) (o := .cells #[.string a0_0, .int .i64 a0_1, .int .i64 a0_2, .int .i64 a0_3, .bool a0_4, .bool a0_5, .slice A0_6 l0_6.length c0_6] 24 (0, 0)) (by (with_reducible repeat (first | refine blk_drewN ?_ _ | refine blk_drew ?_ | refine blk_alloc ?_ _)); exact BK276.out) hb); have n1_ := Aside0.mk (below_step (by repeat (first | (with_reducible first | exact HB.out | apply below_alloc | apply pw_below_drewN | apply below_drew1 | refine below_set ?_ GE276.out) | exact HB.out)) hb); clear BK276; clear HB; have BK276 := n0_; have HB := n1_; clear n0_ n1_; (try clear hb); (try clear hb2); (try clear hk); (try clear hi)) | (go_at_call 12; (with_reducible refine (pantrylaw12_small.calls k _ _ l2 true _ ?side1 ?side2 A15.out).mono ?_); (case side1 => repeat (first | exact (Kd.C_below HR2.out HB.out) | (with_reducible refine Kd.C_alloc ?_ _) | (with_reducible refine Kd.C_drewN ?_ _) | (with_reducible refine Kd.C_drew ?_))); (case side2 => exact HC2.out); rintro e w60 ⟨rfl, hb⟩; have n0_ := Aside0.mk (blk_below (g := gb276) (o := .cells #[.string a0_0, .int .i64 a0_1, .int .i64 a0_2, .int .i64 a0_3, .bool a0_4, .bool a0_5, .slice A0_6 l0_6.length c0_6] 24 (0, 0)) (by (with_reducible repeat (first | refine blk_drewN ?_ _ | refine blk_drew ?_ | refine blk_alloc ?_ _)); exact BK276.out) hb); have n1_ := Aside0.mk (below_step (by repeat (first | (with_reducible first | exact HB.out | apply below_alloc | apply pw_below_drewN | apply below_drew1 | refine below_set ?_ GE276.out) | exact HB.out)) hb); clear BK276; clear HB; have BK276 := n0_; have HB := n1_; clear n0_ n1_; (try clear hb); (try clear hb2); (try clear hk); (try clear hi)) | (go_at_call 12; (with_reducible refine (pantrylaw12_small.calls k _ _ l1 false _ ?side1 ?side2 A17.out).mono ?_); (case side1 => repeat (first | exact (Kd.C_below HR1.out HB.out) | (with_reducible refine Kd.C_alloc ?_ _) | (with_reducible refine Kd.C_drewN ?_ _) | (with_reducible refine Kd.C_drew ?_))); (case side2 => exact HC1.out); rintro e w61 ⟨rfl, hb⟩; have n0_ := Aside0.mk (blk_below (g := gb276) (o := .cells #[.string a0_0, .int .i64 a0_1, .int .i64 a0_2, .int .i64 a0_3, .bool a0_4, .bool a0_5, .slice A0_6 l0_6.length c0_6] 24 (0, 0)) (by (with_reducible repeat (first | refine blk_drewN ?_ _ | refine blk_drew ?_ | refine blk_alloc ?_ _)); exact BK276.out) hb); have n1_ := Aside0.mk (below_step (by repeat (first | (with_reducible first | exact HB.out | apply below_alloc | apply pw_below_drewN | apply below_drew1 | refine below_set ?_ GE276.out) | exact HB.out)) hb); clear BK276; clear HB; have BK276 := n0_; have HB := n1_; clear n0_ n1_; (try clear hb); (try clear hb2); (try clear hk); (try clear hi)))
            go_meet
            case rel => exact ⟨_, (true), (by first | rfl | (simp; done) | (simp [*]; done)), H', ⟨by first | omega | exact Nat.le_refl _⟩, ⟨by (with_reducible repeat (first | refine blk_drewN ?_ _ | refine blk_drew ?_ | refine blk_alloc ?_ _)); exact BK276.out⟩, ⟨by repeat (first | (with_reducible first | exact HB.out | apply below_alloc | apply pw_below_drewN | apply below_drew1 | refine below_set ?_ GE276.out) | exact HB.out)⟩⟩
        · replace c16 := Bool.eq_false_iff.mpr c16
          subst c16
          have H1 : (pantrylaw12_FreshOlder.j0 k l1 l2 a3 a4 a5 a6 true a0_0 a0_1 a0_2 a0_3 a0_4 a0_5 l0_6) = some r := by rw [if_neg (show ¬ (false = true) by decide)] at H; exact H
          clear H
          have H := H1
          clear H1
          have H' := Aside0.mk H
          clear H
          have hcz62_0 : w12.cell? ⟨gb276, 0, none⟩ = some (.string a0_0) := (blk_cell BK276.out 0).trans rfl
          have hcz62_1 : w12.cell? ⟨gb276, 1, none⟩ = some (.int .i64 a0_1) := (blk_cell BK276.out 1).trans rfl
          have hcz62_2 : w12.cell? ⟨gb276, 2, none⟩ = some (.int .i64 a0_2) := (blk_cell BK276.out 2).trans rfl
          have hcz62_3 : w12.cell? ⟨gb276, 3, none⟩ = some (.int .i64 a0_3) := (blk_cell BK276.out 3).trans rfl
          have hcz62_4 : w12.cell? ⟨gb276, 4, none⟩ = some (.bool a0_4) := (blk_cell BK276.out 4).trans rfl
          have hcz62_5 : w12.cell? ⟨gb276, 5, none⟩ = some (.bool a0_5) := (blk_cell BK276.out 5).trans rfl
          have hcz62_6 : w12.cell? ⟨gb276, 6, none⟩ = some (.slice A0_6 l0_6.length c0_6) := (blk_cell BK276.out 6).trans rfl
          have hfz62_0 := blk_frozen BK276.out 0
          have hfz62_1 := blk_frozen BK276.out 1
          have hfz62_2 := blk_frozen BK276.out 2
          have hfz62_3 := blk_frozen BK276.out 3
          have hfz62_4 := blk_frozen BK276.out 4
          have hfz62_5 := blk_frozen BK276.out 5
          have hfz62_6 := blk_frozen BK276.out 6
          go_wp2_with (first | ((with_reducible refine gate_callee (f := 11) rfl ?_); refine goesL_ (some 20) rfl rfl Tryz.func11 (by kernel_rfl) rfl #[.agg #[.string a0_0, .int .i64 a0_1, .int .i64 a0_2, .int .i64 a0_3, .bool a0_4, .bool a0_5, .slice A0_6 l0_6.length c0_6]] rfl (by (try simp only [List.map_toArray, List.map_cons, List.map_nil]); first | done | rfl | (simp only [List.length_drop, List.length_take]; rfl)) ?_; (with_reducible refine (pantrylaw12_fit.calls k a0_0 a0_1 a0_2 a0_3 a0_4 a0_5 (fun k_ => k_ < w.heap.size) _ _ l0_6 true _ ?side1 A13.out).mono ?_); (case side1 => exact Kd.V_mk HC0_6.out (Kd.F_below (Kd.C_F Kd.heap_string HR0_6.out) (by repeat (first | (with_reducible first | exact HB.out | apply below_alloc | apply pw_below_drewN | apply below_drew1 | refine below_set ?_ GE276.out) | exact HB.out)))); rintro e w63 ⟨rfl, hb⟩; refine ⟨_, rfl, ?_⟩; have n0_ := Aside0.mk (blk_below (g := gb276) (o := .cells #[.string a0_0, .int .i64 a0_1, .int .i64 a0_2, .int .i64 a0_3, .bool a0_4, .bool a0_5, .slice A0_6 l0_6.length c0_6] 24 (0, 0)) (by (with_reducible repeat (first | refine blk_drewN ?_ _ | refine blk_drew ?_ | refine blk_alloc ?_ _)); exact BK276.out) hb); have n1_ := Aside0.mk (below_step (by repeat (first | (with_reducible first | exact HB.out | apply below_alloc | apply pw_below_drewN | apply below_drew1 | refine below_set ?_ GE276.out) | exact HB.out)) hb); clear BK276; clear HB; have BK276 := n0_; have HB := n1_; clear n0_ n1_; (try clear hb); (try clear hb2); (try clear hk); (try clear hi)) | (go_at_call 12; (with_reducible refine (pantrylaw12_small.calls k _ _ l2 false _ ?side1 ?side2 A15.out).mono ?_); (case side1 => repeat (first | exact (Kd.C_below HR2.out HB.out) | (with_reducible refine Kd.C_alloc ?_ _) | (with_reducible refine Kd.C_drewN ?_ _) | (with_reducible refine Kd.C_drew ?_))); (case side2 => exact HC2.out); rintro e w64 ⟨rfl, hb⟩; have n0_ := Aside0.mk (blk_below (g := gb276) (o := .cells #[.string a0_0, .int .i64 a0_1, .int .i64 a0_2, .int .i64 a0_3, .bool a0_4, .bool a0_5, .slice A0_6 l0_6.length c0_6] 24 (0, 0)) (by (with_reducible repeat (first | refine blk_drewN ?_ _ | refine blk_drew ?_ | refine blk_alloc ?_ _)); exact BK276.out) hb); have n1_ := Aside0.mk (below_step (by repeat (first | (with_reducible first | exact HB.out | apply below_alloc | apply pw_below_drewN | apply below_drew1 | refine below_set ?_ GE276.out) | exact HB.out)) hb); clear BK276; clear HB; have BK276 := n0_; have HB := n1_; clear n0_ n1_; (try clear hb); (try clear hb2); (try clear hk); (try clear hi)))
          go_meet
          case rel => exact ⟨_, (true), (by first | rfl | (simp; done) | (simp [*]; done)), H', ⟨by first | omega | exact Nat.le_refl _⟩, ⟨by (with_reducible repeat (first | refine blk_drewN ?_ _ | refine blk_drew ?_ | refine blk_alloc ?_ _)); exact BK276.out⟩, ⟨by repeat (first | (with_reducible first | exact HB.out | apply below_alloc | apply pw_below_drewN | apply below_drew1 | refine below_set ?_ GE276.out) | exact HB.out)⟩⟩
      · replace c14 := Bool.eq_false_iff.mpr c14
        subst c14
        have H1 : (pantrylaw12_FreshOlder.j0 k l1 l2 a3 a4 a5 a6 true a0_0 a0_1 a0_2 a0_3 a0_4 a0_5 l0_6) = some r := by rw [if_neg (show ¬ (false = true) by decide)] at H; exact H
        clear H
        have H := H1
        clear H1
        have H' := Aside0.mk H
        clear H
        have hcz65_0 : w12.cell? ⟨gb276, 0, none⟩ = some (.string a0_0) := (blk_cell BK276.out 0).trans rfl
        have hcz65_1 : w12.cell? ⟨gb276, 1, none⟩ = some (.int .i64 a0_1) := (blk_cell BK276.out 1).trans rfl
        have hcz65_2 : w12.cell? ⟨gb276, 2, none⟩ = some (.int .i64 a0_2) := (blk_cell BK276.out 2).trans rfl
        have hcz65_3 : w12.cell? ⟨gb276, 3, none⟩ = some (.int .i64 a0_3) := (blk_cell BK276.out 3).trans rfl
        have hcz65_4 : w12.cell? ⟨gb276, 4, none⟩ = some (.bool a0_4) := (blk_cell BK276.out 4).trans rfl
        have hcz65_5 : w12.cell? ⟨gb276, 5, none⟩ = some (.bool a0_5) := (blk_cell BK276.out 5).trans rfl
        have hcz65_6 : w12.cell? ⟨gb276, 6, none⟩ = some (.slice A0_6 l0_6.length c0_6) := (blk_cell BK276.out 6).trans rfl
        have hfz65_0 := blk_frozen BK276.out 0
        have hfz65_1 := blk_frozen BK276.out 1
        have hfz65_2 := blk_frozen BK276.out 2
        have hfz65_3 := blk_frozen BK276.out 3
        have hfz65_4 := blk_frozen BK276.out 4
        have hfz65_5 := blk_frozen BK276.out 5
        have hfz65_6 := blk_frozen BK276.out 6
        go_wp2_with (first | ((with_reducible refine gate_callee (f := 11) rfl ?_); refine goesL_ (some 20) rfl rfl Tryz.func11 (by kernel_rfl) rfl #[.agg #[.string a0_0, .int .i64 a0_1, .int .i64 a0_2, .int .i64 a0_3, .bool a0_4, .bool a0_5, .slice A0_6 l0_6.length c0_6]] rfl (by (try simp only [List.map_toArray, List.map_cons, List.map_nil]); first | done | rfl | (simp only [List.length_drop, List.length_take]; rfl)) ?_; (with_reducible refine (pantrylaw12_fit.calls k a0_0 a0_1 a0_2 a0_3 a0_4 a0_5 (fun k_ => k_ < w.heap.size) _ _ l0_6 false _ ?side1 A13.out).mono ?_); (case side1 => exact Kd.V_mk HC0_6.out (Kd.F_below (Kd.C_F Kd.heap_string HR0_6.out) (by repeat (first | (with_reducible first | exact HB.out | apply below_alloc | apply pw_below_drewN | apply below_drew1 | refine below_set ?_ GE276.out) | exact HB.out)))); rintro e w66 ⟨rfl, hb⟩; refine ⟨_, rfl, ?_⟩; have n0_ := Aside0.mk (blk_below (g := gb276) (o := .cells #[.string a0_0, .int .i64 a0_1, .int .i64 a0_2, .int .i64 a0_3, .bool a0_4, .bool a0_5, .slice A0_6 l0_6.length c0_6] 24 (0, 0)) (by (with_reducible repeat (first | refine blk_drewN ?_ _ | refine blk_drew ?_ | refine blk_alloc ?_ _)); exact BK276.out) hb); have n1_ := Aside0.mk (below_step (by repeat (first | (with_reducible first | exact HB.out | apply below_alloc | apply pw_below_drewN | apply below_drew1 | refine below_set ?_ GE276.out) | exact HB.out)) hb); clear BK276; clear HB; have BK276 := n0_; have HB := n1_; clear n0_ n1_; (try clear hb); (try clear hb2); (try clear hk); (try clear hi)))
        go_meet
        case rel => exact ⟨_, (true), (by first | rfl | (simp; done) | (simp [*]; done)), H', ⟨by first | omega | exact Nat.le_refl _⟩, ⟨by (with_reducible repeat (first | refine blk_drewN ?_ _ | refine blk_drew ?_ | refine blk_alloc ?_ _)); exact BK276.out⟩, ⟨by repeat (first | (with_reducible first | exact HB.out | apply below_alloc | apply pw_below_drewN | apply below_drew1 | refine below_set ?_ GE276.out) | exact HB.out)⟩⟩
    case rest =>
      clear HC10
      try clear c1
      try clear c2
      try clear p2
      try clear c3
      try clear c4
      try clear c6
      try clear c9
      try clear c10
      try clear c11
      try clear c14
      try clear c16
      try clear c18
      try clear c19
      try clear c19b0
      try clear c24
      try clear c24b0
      try clear c29
      try clear c29b0
      try clear c34
      try clear c34b0
      try clear c39
      try clear c39b0
      try clear c44
      try clear c44b0
      try clear c49
      try clear c49b0
      try clear hcz20_0
      try clear hcz20_1
      try clear hcz20_2
      try clear hcz20_3
      try clear hcz20_4
      try clear hcz20_5
      try clear hcz20_6
      try clear hcz25_0
      try clear hcz25_1
      try clear hcz25_2
      try clear hcz25_3
      try clear hcz25_4
      try clear hcz25_5
      try clear hcz25_6
      try clear hcz30_0
      try clear hcz30_1
      try clear hcz30_2
      try clear hcz30_3
      try clear hcz30_4
      try clear hcz30_5
      try clear hcz30_6
      try clear hcz35_0
      try clear hcz35_1
      try clear hcz35_2
      try clear hcz35_3
      try clear hcz35_4
      try clear hcz35_5
      try clear hcz35_6
      try clear hcz40_0
      try clear hcz40_1
      try clear hcz40_2
      try clear hcz40_3
      try clear hcz40_4
      try clear hcz40_5
      try clear hcz40_6
      try clear hcz45_0
      try clear hcz45_1
      try clear hcz45_2
      try clear hcz45_3
      try clear hcz45_4
      try clear hcz45_5
      try clear hcz45_6
      try clear hcz50_0
      try clear hcz50_1
      try clear hcz50_2
      try clear hcz50_3
      try clear hcz50_4
      try clear hcz50_5
      try clear hcz50_6
      try clear hcz54_0
      try clear hcz54_1
      try clear hcz54_2
      try clear hcz54_3
      try clear hcz54_4
      try clear hcz54_5
      try clear hcz54_6
      try clear hcz58_0
      try clear hcz58_1
      try clear hcz58_2
      try clear hcz58_3
      try clear hcz58_4
      try clear hcz58_5
      try clear hcz58_6
      try clear hcz62_0
      try clear hcz62_1
      try clear hcz62_2
      try clear hcz62_3
      try clear hcz62_4
      try clear hcz62_5
      try clear hcz62_6
      try clear hcz65_0
      try clear hcz65_1
      try clear hcz65_2
      try clear hcz65_3
      try clear hcz65_4
      try clear hcz65_5
      try clear hcz65_6
      try clear hfz20_0
      try clear hfz20_1
      try clear hfz20_2
      try clear hfz20_3
      try clear hfz20_4
      try clear hfz20_5
      try clear hfz20_6
      try clear hfz25_0
      try clear hfz25_1
      try clear hfz25_2
      try clear hfz25_3
      try clear hfz25_4
      try clear hfz25_5
      try clear hfz25_6
      try clear hfz30_0
      try clear hfz30_1
      try clear hfz30_2
      try clear hfz30_3
      try clear hfz30_4
      try clear hfz30_5
      try clear hfz30_6
      try clear hfz35_0
      try clear hfz35_1
      try clear hfz35_2
      try clear hfz35_3
      try clear hfz35_4
      try clear hfz35_5
      try clear hfz35_6
      try clear hfz40_0
      try clear hfz40_1
      try clear hfz40_2
      try clear hfz40_3
      try clear hfz40_4
      try clear hfz40_5
      try clear hfz40_6
      try clear hfz45_0
      try clear hfz45_1
      try clear hfz45_2
      try clear hfz45_3
      try clear hfz45_4
      try clear hfz45_5
      try clear hfz45_6
      try clear hfz50_0
      try clear hfz50_1
      try clear hfz50_2
      try clear hfz50_3
      try clear hfz50_4
      try clear hfz50_5
      try clear hfz50_6
      try clear hfz54_0
      try clear hfz54_1
      try clear hfz54_2
      try clear hfz54_3
      try clear hfz54_4
      try clear hfz54_5
      try clear hfz54_6
      try clear hfz58_0
      try clear hfz58_1
      try clear hfz58_2
      try clear hfz58_3
      try clear hfz58_4
      try clear hfz58_5
      try clear hfz58_6
      try clear hfz62_0
      try clear hfz62_1
      try clear hfz62_2
      try clear hfz62_3
      try clear hfz62_4
      try clear hfz62_5
      try clear hfz62_6
      try clear hfz65_0
      try clear hfz65_1
      try clear hfz65_2
      try clear hfz65_3
      try clear hfz65_4
      try clear hfz65_5
      try clear hfz65_6
      obtain ⟨kq, x65_9, rfl, HA, HJ9, BK276, HB⟩ := hcut
      cases kq with
      | zero => exact absurd HA.out (by simp [pantrylaw12_FreshOlder.j0])
      | succ kj9 =>
        have H := HA.out
        clear HA
        simp only [pantrylaw12_FreshOlder.j0] at H
        by_cases c67 : x65_9 = true
        · subst c67
          have H1 : (some true) = some r := by rw [if_pos rfl] at H; exact H
          clear H
          have H := H1
          clear H1
          obtain rfl := Option.some.inj H
          go_wp2
          go_ret
          exact ⟨by first | rfl | (generalize ByteArray.toList _ = l_; cases l_ <;> rfl) | (simp [errW_none, errW_some] <;> rfl) | (simp [*, errW_none, errW_some] <;> rfl), by repeat (first | (with_reducible first | exact HB.out | apply below_alloc | apply pw_below_drewN | apply below_drew1 | refine below_set ?_ GE276.out) | exact HB.out)⟩
        · replace c67 := Bool.eq_false_iff.mpr c67
          subst c67
          have H1 : ((fresh_Age.f kj9 l2 a3 a4 a5).bind fun t281 => ((fresh_Age.f kj9 l2 a3 a4 (wrap64 (a5 + a6))).bind fun t282 => (if (wrap64 (t282 - t281)) = a6 then (if t281 ≥ 0 then ((fresh_Use.f kj9 a0_0 a0_1 a0_2 a0_3 a0_4 a0_5 l0_6 l1 l2 a3 a4 a5).bind fun t283 => (if t283 = 0 then (some true) else ((fresh_Use.f kj9 a0_0 a0_1 a0_2 a0_3 a0_4 a0_5 l0_6 l1 l2 a3 a4 (wrap64 (a5 + a6))).bind fun t284 => (some (t284 != 0))))) else (none)) else (none)))) = some r := by rw [if_neg (show ¬ (false = true) by decide)] at H; exact H
          clear H
          have H := H1
          clear H1
          replace H := Option.bind_eq_some_iff.mp H
          obtain ⟨t281, A680, H⟩ := H
          replace H : ((fresh_Age.f kj9 l2 a3 a4 (wrap64 (a5 + a6))).bind fun t282 => (if (wrap64 (t282 - t281)) = a6 then (if t281 ≥ 0 then ((fresh_Use.f kj9 a0_0 a0_1 a0_2 a0_3 a0_4 a0_5 l0_6 l1 l2 a3 a4 a5).bind fun t283 => (if t283 = 0 then (some true) else ((fresh_Use.f kj9 a0_0 a0_1 a0_2 a0_3 a0_4 a0_5 l0_6 l1 l2 a3 a4 (wrap64 (a5 + a6))).bind fun t284 => (some (t284 != 0))))) else (none)) else (none))) = some r := H
          have A68 := Aside0.mk A680
          clear A680
          replace H := Option.bind_eq_some_iff.mp H
          obtain ⟨t282, A690, H⟩ := H
          replace H : (if (wrap64 (t282 - t281)) = a6 then (if t281 ≥ 0 then ((fresh_Use.f kj9 a0_0 a0_1 a0_2 a0_3 a0_4 a0_5 l0_6 l1 l2 a3 a4 a5).bind fun t283 => (if t283 = 0 then (some true) else ((fresh_Use.f kj9 a0_0 a0_1 a0_2 a0_3 a0_4 a0_5 l0_6 l1 l2 a3 a4 (wrap64 (a5 + a6))).bind fun t284 => (some (t284 != 0))))) else (none)) else (none)) = some r := H
          have A69 := Aside0.mk A690
          clear A690
          by_cases c70 : (wrap64 (t282 - t281)) = a6
          · rw [if_pos c70] at H
            have c70b0 : ((wrap64 (t282 - t281)) == a6) = true := beq_iff_eq.mpr c70
            have c70b1 : ((wrap64 (t282 - t281)) != a6) = false := bne_eq_false_iff_eq.mpr c70
            clear c70
            by_cases c71 : t281 ≥ 0
            · rw [if_pos c71] at H
              have c71b0 : decide (0 ≤ t281) = true := decide_eq_true c71
              clear c71
              replace H := Option.bind_eq_some_iff.mp H
              obtain ⟨t283, A720, H⟩ := H
              replace H : (if t283 = 0 then (some true) else ((fresh_Use.f kj9 a0_0 a0_1 a0_2 a0_3 a0_4 a0_5 l0_6 l1 l2 a3 a4 (wrap64 (a5 + a6))).bind fun t284 => (some (t284 != 0)))) = some r := H
              have A72 := Aside0.mk A720
              clear A720
              by_cases c73 : t283 = 0
              · rw [if_pos c73] at H
                have c73b0 : (t283 == 0) = true := beq_iff_eq.mpr c73
                have c73b1 : (t283 != 0) = false := bne_eq_false_iff_eq.mpr c73
                clear c73
                obtain rfl := Option.some.inj H
                go_wp2_with (first | ((with_reducible refine gate_callee (f := 19) rfl ?_); refine goesL_ (some 70) rfl rfl Tryz.func19 (by kernel_rfl) rfl #[.slice A2 l2.length c2, .int .i64 a3, .int .i64 a4, .int .i64 a5] rfl (by (try simp only [List.map_toArray, List.map_cons, List.map_nil]); first | done | rfl | (simp only [List.length_drop, List.length_take]; rfl)) ?_; (with_reducible refine (fresh_Age.calls kj9 _ _ l2 a3 a4 a5 t281 _ ?side1 ?side2 ?side3 A68.out).mono ?_); (case side1 => repeat (first | exact (Kd.C_below HR2.out HB.out) | (with_reducible refine Kd.C_alloc ?_ _) | (with_reducible refine Kd.C_drewN ?_ _) | (with_reducible refine Kd.C_drew ?_))); (case side2 => exact HC2.out); (case side3 => repeat (first | exact (WF.below HRW.out HB.out) | (with_reducible refine Kd.C_alloc ?_ _) | (with_reducible refine Kd.C_drewN ?_ _) | (with_reducible refine Kd.C_drew ?_))); rintro e w74 ⟨rfl, hb⟩; refine ⟨_, rfl, ?_⟩; have n0_ := Aside0.mk (blk_below (g := gb276) (o := .cells #[.string a0_0, .int .i64 a0_1, .int .i64 a0_2, .int .i64 a0_3, .bool a0_4, .bool a0_5, .slice A0_6 l0_6.length c0_6] 24 (0, 0)) (by (with_reducible repeat (first | refine blk_drewN ?_ _ | refine blk_drew ?_ | refine blk_alloc ?_ _)); exact BK276.out) hb); have n1_ := Aside0.mk (below_step (by repeat (first | (with_reducible first | exact HB.out | apply below_alloc | apply pw_below_drewN | apply below_drew1 | refine below_set ?_ GE276.out) | exact HB.out)) hb); clear BK276; clear HB; have BK276 := n0_; have HB := n1_; clear n0_ n1_; (try clear hb); (try clear hb2); (try clear hk); (try clear hi)) | ((with_reducible refine gate_callee (f := 19) rfl ?_); refine goesL_ (some 77) rfl rfl Tryz.func19 (by kernel_rfl) rfl #[.slice A2 l2.length c2, .int .i64 a3, .int .i64 a4, .int .i64 (wrap64 (a5 + a6))] rfl (by (try simp only [List.map_toArray, List.map_cons, List.map_nil]); first | done | rfl | (simp only [List.length_drop, List.length_take]; rfl)) ?_; (with_reducible refine (fresh_Age.calls kj9 _ _ l2 a3 a4 (wrap64 (a5 + a6)) t282 _ ?side1 ?side2 ?side3 A69.out).mono ?_); (case side1 => repeat (first | exact (Kd.C_below HR2.out HB.out) | (with_reducible refine Kd.C_alloc ?_ _) | (with_reducible refine Kd.C_drewN ?_ _) | (with_reducible refine Kd.C_drew ?_))); (case side2 => exact HC2.out); (case side3 => repeat (first | exact (WF.below HRW.out HB.out) | (with_reducible refine Kd.C_alloc ?_ _) | (with_reducible refine Kd.C_drewN ?_ _) | (with_reducible refine Kd.C_drew ?_))); rintro e w75 ⟨rfl, hb⟩; refine ⟨_, rfl, ?_⟩; have n0_ := Aside0.mk (blk_below (g := gb276) (o := .cells #[.string a0_0, .int .i64 a0_1, .int .i64 a0_2, .int .i64 a0_3, .bool a0_4, .bool a0_5, .slice A0_6 l0_6.length c0_6] 24 (0, 0)) (by (with_reducible repeat (first | refine blk_drewN ?_ _ | refine blk_drew ?_ | refine blk_alloc ?_ _)); exact BK276.out) hb); have n1_ := Aside0.mk (below_step (by repeat (first | (with_reducible first | exact HB.out | apply below_alloc | apply pw_below_drewN | apply below_drew1 | refine below_set ?_ GE276.out) | exact HB.out)) hb); clear BK276; clear HB; have BK276 := n0_; have HB := n1_; clear n0_ n1_; (try clear hb); (try clear hb2); (try clear hk); (try clear hi); have hcz76_0 : w75.cell? ⟨gb276, 0, none⟩ = some (.string a0_0) := (blk_cell BK276.out 0).trans rfl; have hcz76_1 : w75.cell? ⟨gb276, 1, none⟩ = some (.int .i64 a0_1) := (blk_cell BK276.out 1).trans rfl; have hcz76_2 : w75.cell? ⟨gb276, 2, none⟩ = some (.int .i64 a0_2) := (blk_cell BK276.out 2).trans rfl; have hcz76_3 : w75.cell? ⟨gb276, 3, none⟩ = some (.int .i64 a0_3) := (blk_cell BK276.out 3).trans rfl; have hcz76_4 : w75.cell? ⟨gb276, 4, none⟩ = some (.bool a0_4) := (blk_cell BK276.out 4).trans rfl; have hcz76_5 : w75.cell? ⟨gb276, 5, none⟩ = some (.bool a0_5) := (blk_cell BK276.out 5).trans rfl; have hcz76_6 : w75.cell? ⟨gb276, 6, none⟩ = some (.slice A0_6 l0_6.length c0_6) := (blk_cell BK276.out 6).trans rfl; have hfz76_0 := blk_frozen BK276.out 0; have hfz76_1 := blk_frozen BK276.out 1; have hfz76_2 := blk_frozen BK276.out 2; have hfz76_3 := blk_frozen BK276.out 3; have hfz76_4 := blk_frozen BK276.out 4; have hfz76_5 := blk_frozen BK276.out 5; have hfz76_6 := blk_frozen BK276.out 6) | (go_at_call 21; (with_reducible refine (fresh_Use.calls kj9 a0_0 a0_1 a0_2 a0_3 a0_4 a0_5 _ _ l0_6 _ _ l1 _ _ l2 a3 a4 a5 t283 _ ?side1 ?side2 ?side3 ?side4 ?side5 ?side6 ?side7 A72.out).mono ?_); (case side1 => repeat (first | exact (Kd.C_below HR0_6.out HB.out) | (with_reducible refine Kd.C_alloc ?_ _) | (with_reducible refine Kd.C_drewN ?_ _) | (with_reducible refine Kd.C_drew ?_))); (case side2 => exact HC0_6.out); (case side3 => repeat (first | exact (Kd.C_below HR1.out HB.out) | (with_reducible refine Kd.C_alloc ?_ _) | (with_reducible refine Kd.C_drewN ?_ _) | (with_reducible refine Kd.C_drew ?_))); (case side4 => exact HC1.out); (case side5 => repeat (first | exact (Kd.C_below HR2.out HB.out) | (with_reducible refine Kd.C_alloc ?_ _) | (with_reducible refine Kd.C_drewN ?_ _) | (with_reducible refine Kd.C_drew ?_))); (case side6 => exact HC2.out); (case side7 => repeat (first | exact (WF.below HRW.out HB.out) | (with_reducible refine Kd.C_alloc ?_ _) | (with_reducible refine Kd.C_drewN ?_ _) | (with_reducible refine Kd.C_drew ?_))); rintro e w77 ⟨rfl, hb⟩; have n0_ := Aside0.mk (blk_below (g := gb276) (o := .cells #[.string a0_0, .int .i64 a0_1, .int .i64 a0_2, .int .i64 a0_3, .bool a0_4, .bool a0_5, .slice A0_6 l0_6.length c0_6] 24 (0, 0)) (by (with_reducible repeat (first | refine blk_drewN ?_ _ | refine blk_drew ?_ | refine blk_alloc ?_ _)); exact BK276.out) hb); have n1_ := Aside0.mk (below_step (by repeat (first | (with_reducible first | exact HB.out | apply below_alloc | apply pw_below_drewN | apply below_drew1 | refine below_set ?_ GE276.out) | exact HB.out)) hb); clear BK276; clear HB; have BK276 := n0_; have HB := n1_; clear n0_ n1_; (try clear hb); (try clear hb2); (try clear hk); (try clear hi)))
                go_ret
                exact ⟨by first | rfl | (generalize ByteArray.toList _ = l_; cases l_ <;> rfl) | (simp [errW_none, errW_some] <;> rfl) | (simp [*, errW_none, errW_some] <;> rfl), by repeat (first | (with_reducible first | exact HB.out | apply below_alloc | apply pw_below_drewN | apply below_drew1 | refine below_set ?_ GE276.out) | exact HB.out)⟩
              · rw [if_neg c73] at H
                have c73b0 : (t283 == 0) = false := beq_eq_false_iff_ne.mpr c73
                have c73b1 : (t283 != 0) = true := bne_iff_ne.mpr c73
                replace H := Option.bind_eq_some_iff.mp H
                obtain ⟨t284, A780, H⟩ := H
                replace H : (some (t284 != 0)) = some r := H
                have A78 := Aside0.mk A780
                clear A780
                obtain rfl := Option.some.inj H
                go_wp2_with (first | ((with_reducible refine gate_callee (f := 19) rfl ?_); refine goesL_ (some 70) rfl rfl Tryz.func19 (by kernel_rfl) rfl #[.slice A2 l2.length c2, .int .i64 a3, .int .i64 a4, .int .i64 a5] rfl (by (try simp only [List.map_toArray, List.map_cons, List.map_nil]); first | done | rfl | (simp only [List.length_drop, List.length_take]; rfl)) ?_; (with_reducible refine (fresh_Age.calls kj9 _ _ l2 a3 a4 a5 t281 _ ?side1 ?side2 ?side3 A68.out).mono ?_); (case side1 => repeat (first | exact (Kd.C_below HR2.out HB.out) | (with_reducible refine Kd.C_alloc ?_ _) | (with_reducible refine Kd.C_drewN ?_ _) | (with_reducible refine Kd.C_drew ?_))); (case side2 => exact HC2.out); (case side3 => repeat (first | exact (WF.below HRW.out HB.out) | (with_reducible refine Kd.C_alloc ?_ _) | (with_reducible refine Kd.C_drewN ?_ _) | (with_reducible refine Kd.C_drew ?_))); rintro e w79 ⟨rfl, hb⟩; refine ⟨_, rfl, ?_⟩; have n0_ := Aside0.mk (blk_below (g := gb276) (o := .cells #[.string a0_0, .int .i64 a0_1, .int .i64 a0_2, .int .i64 a0_3, .bool a0_4, .bool a0_5, .slice A0_6 l0_6.length c0_6] 24 (0, 0)) (by (with_reducible repeat (first | refine blk_drewN ?_ _ | refine blk_drew ?_ | refine blk_alloc ?_ _)); exact BK276.out) hb); have n1_ := Aside0.mk (below_step (by repeat (first | (with_reducible first | exact HB.out | apply below_alloc | apply pw_below_drewN | apply below_drew1 | refine below_set ?_ GE276.out) | exact HB.out)) hb); clear BK276; clear HB; have BK276 := n0_; have HB := n1_; clear n0_ n1_; (try clear hb); (try clear hb2); (try clear hk); (try clear hi)) | ((with_reducible refine gate_callee (f := 19) rfl ?_); refine goesL_ (some 77) rfl rfl Tryz.func19 (by kernel_rfl) rfl #[.slice A2 l2.length c2, .int .i64 a3, .int .i64 a4, .int .i64 (wrap64 (a5 + a6))] rfl (by (try simp only [List.map_toArray, List.map_cons, List.map_nil]); first | done | rfl | (simp only [List.length_drop, List.length_take]; rfl)) ?_; (with_reducible refine (fresh_Age.calls kj9 _ _ l2 a3 a4 (wrap64 (a5 + a6)) t282 _ ?side1 ?side2 ?side3 A69.out).mono ?_); (case side1 => repeat (first | exact (Kd.C_below HR2.out HB.out) | (with_reducible refine Kd.C_alloc ?_ _) | (with_reducible refine Kd.C_drewN ?_ _) | (with_reducible refine Kd.C_drew ?_))); (case side2 => exact HC2.out); (case side3 => repeat (first | exact (WF.below HRW.out HB.out) | (with_reducible refine Kd.C_alloc ?_ _) | (with_reducible refine Kd.C_drewN ?_ _) | (with_reducible refine Kd.C_drew ?_))); rintro e w80 ⟨rfl, hb⟩; refine ⟨_, rfl, ?_⟩; have n0_ := Aside0.mk (blk_below (g := gb276) (o := .cells #[.string a0_0, .int .i64 a0_1, .int .i64 a0_2, .int .i64 a0_3, .bool a0_4, .bool a0_5, .slice A0_6 l0_6.length c0_6] 24 (0, 0)) (by (with_reducible repeat (first | refine blk_drewN ?_ _ | refine blk_drew ?_ | refine blk_alloc ?_ _)); exact BK276.out) hb); have n1_ := Aside0.mk (below_step (by repeat (first | (with_reducible first | exact HB.out | apply below_alloc | apply pw_below_drewN | apply below_drew1 | refine below_set ?_ GE276.out) | exact HB.out)) hb); clear BK276; clear HB; have BK276 := n0_; have HB := n1_; clear n0_ n1_; (try clear hb); (try clear hb2); (try clear hk); (try clear hi); have hcz81_0 : w80.cell? ⟨gb276, 0, none⟩ = some (.string a0_0) := (blk_cell BK276.out 0).trans rfl; have hcz81_1 : w80.cell? ⟨gb276, 1, none⟩ = some (.int .i64 a0_1) := (blk_cell BK276.out 1).trans rfl; have hcz81_2 : w80.cell? ⟨gb276, 2, none⟩ = some (.int .i64 a0_2) := (blk_cell BK276.out 2).trans rfl; have hcz81_3 : w80.cell? ⟨gb276, 3, none⟩ = some (.int .i64 a0_3) := (blk_cell BK276.out 3).trans rfl; have hcz81_4 : w80.cell? ⟨gb276, 4, none⟩ = some (.bool a0_4) := (blk_cell BK276.out 4).trans rfl; have hcz81_5 : w80.cell? ⟨gb276, 5, none⟩ = some (.bool a0_5) := (blk_cell BK276.out 5).trans rfl; have hcz81_6 : w80.cell? ⟨gb276, 6, none⟩ = some (.slice A0_6 l0_6.length c0_6) := (blk_cell BK276.out 6).trans rfl; have hfz81_0 := blk_frozen BK276.out 0; have hfz81_1 := blk_frozen BK276.out 1; have hfz81_2 := blk_frozen BK276.out 2; have hfz81_3 := blk_frozen BK276.out 3; have hfz81_4 := blk_frozen BK276.out 4; have hfz81_5 := blk_frozen BK276.out 5; have hfz81_6 := blk_frozen BK276.out 6) | (go_at_call 21; (with_reducible refine (fresh_Use.calls kj9 a0_0 a0_1 a0_2 a0_3 a0_4 a0_5 _ _ l0_6 _ _ l1 _ _ l2 a3 a4 a5 t283 _ ?side1 ?side2 ?side3 ?side4 ?side5 ?side6 ?side7 A72.out).mono ?_); (case side1 => repeat (first | exact (Kd.C_below HR0_6.out HB.out) | (with_reducible refine Kd.C_alloc ?_ _) | (with_reducible refine Kd.C_drewN ?_ _) | (with_reducible refine Kd.C_drew ?_))); (case side2 => exact HC0_6.out); (case side3 => repeat (first | exact (Kd.C_below HR1.out HB.out) | (with_reducible refine Kd.C_alloc ?_ _) | (with_reducible refine Kd.C_drewN ?_ _) | (with_reducible refine Kd.C_drew ?_))); (case side4 => exact HC1.out); (case side5 => repeat (first | exact (Kd.C_below HR2.out HB.out) | (with_reducible refine Kd.C_alloc ?_ _) | (with_reducible refine Kd.C_drewN ?_ _) | (with_reducible refine Kd.C_drew ?_))); (case side6 => exact HC2.out); (case side7 => repeat (first | exact (WF.below HRW.out HB.out) | (with_reducible refine Kd.C_alloc ?_ _) | (with_reducible refine Kd.C_drewN ?_ _) | (with_reducible refine Kd.C_drew ?_))); rintro e w82 ⟨rfl, hb⟩; have n0_ := Aside0.mk (blk_below (g := gb276) (o := .cells #[.string a0_0, .int .i64 a0_1, .int .i64 a0_2, .int .i64 a0_3, .bool a0_4, .bool a0_5, .slice A0_6 l0_6.length c0_6] 24 (0, 0)) (by (with_reducible repeat (first | refine blk_drewN ?_ _ | refine blk_drew ?_ | refine blk_alloc ?_ _)); exact BK276.out) hb); have n1_ := Aside0.mk (below_step (by repeat (first | (with_reducible first | exact HB.out | apply below_alloc | apply pw_below_drewN | apply below_drew1 | refine below_set ?_ GE276.out) | exact HB.out)) hb); clear BK276; clear HB; have BK276 := n0_; have HB := n1_; clear n0_ n1_; (try clear hb); (try clear hb2); (try clear hk); (try clear hi); have hcz83_0 : w82.cell? ⟨gb276, 0, none⟩ = some (.string a0_0) := (blk_cell BK276.out 0).trans rfl; have hcz83_1 : w82.cell? ⟨gb276, 1, none⟩ = some (.int .i64 a0_1) := (blk_cell BK276.out 1).trans rfl; have hcz83_2 : w82.cell? ⟨gb276, 2, none⟩ = some (.int .i64 a0_2) := (blk_cell BK276.out 2).trans rfl; have hcz83_3 : w82.cell? ⟨gb276, 3, none⟩ = some (.int .i64 a0_3) := (blk_cell BK276.out 3).trans rfl; have hcz83_4 : w82.cell? ⟨gb276, 4, none⟩ = some (.bool a0_4) := (blk_cell BK276.out 4).trans rfl; have hcz83_5 : w82.cell? ⟨gb276, 5, none⟩ = some (.bool a0_5) := (blk_cell BK276.out 5).trans rfl; have hcz83_6 : w82.cell? ⟨gb276, 6, none⟩ = some (.slice A0_6 l0_6.length c0_6) := (blk_cell BK276.out 6).trans rfl; have hfz83_0 := blk_frozen BK276.out 0; have hfz83_1 := blk_frozen BK276.out 1; have hfz83_2 := blk_frozen BK276.out 2; have hfz83_3 := blk_frozen BK276.out 3; have hfz83_4 := blk_frozen BK276.out 4; have hfz83_5 := blk_frozen BK276.out 5; have hfz83_6 := blk_frozen BK276.out 6) | (go_at_call 21; (with_reducible refine (fresh_Use.calls kj9 a0_0 a0_1 a0_2 a0_3 a0_4 a0_5 _ _ l0_6 _ _ l1 _ _ l2 a3 a4 (wrap64 (a5 + a6)) t284 _ ?side1 ?side2 ?side3 ?side4 ?side5 ?side6 ?side7 A78.out).mono ?_); (case side1 => repeat (first | exact (Kd.C_below HR0_6.out HB.out) | (with_reducible refine Kd.C_alloc ?_ _) | (with_reducible refine Kd.C_drewN ?_ _) | (with_reducible refine Kd.C_drew ?_))); (case side2 => exact HC0_6.out); (case side3 => repeat (first | exact (Kd.C_below HR1.out HB.out) | (with_reducible refine Kd.C_alloc ?_ _) | (with_reducible refine Kd.C_drewN ?_ _) | (with_reducible refine Kd.C_drew ?_))); (case side4 => exact HC1.out); (case side5 => repeat (first | exact (Kd.C_below HR2.out HB.out) | (with_reducible refine Kd.C_alloc ?_ _) | (with_reducible refine Kd.C_drewN ?_ _) | (with_reducible refine Kd.C_drew ?_))); (case side6 => exact HC2.out); (case side7 => repeat (first | exact (WF.below HRW.out HB.out) | (with_reducible refine Kd.C_alloc ?_ _) | (with_reducible refine Kd.C_drewN ?_ _) | (with_reducible refine Kd.C_drew ?_))); rintro e w84 ⟨rfl, hb⟩; have n0_ := Aside0.mk (blk_below (g := gb276) (o := .cells #[.string a0_0, .int .i64 a0_1, .int .i64 a0_2, .int .i64 a0_3, .bool a0_4, .bool a0_5, .slice A0_6 l0_6.length c0_6] 24 (0, 0)) (by (with_reducible repeat (first | refine blk_drewN ?_ _ | refine blk_drew ?_ | refine blk_alloc ?_ _)); exact BK276.out) hb); have n1_ := Aside0.mk (below_step (by repeat (first | (with_reducible first | exact HB.out | apply below_alloc | apply pw_below_drewN | apply below_drew1 | refine below_set ?_ GE276.out) | exact HB.out)) hb); clear BK276; clear HB; have BK276 := n0_; have HB := n1_; clear n0_ n1_; (try clear hb); (try clear hb2); (try clear hk); (try clear hi)))
                go_ret
                exact ⟨by first | rfl | (generalize ByteArray.toList _ = l_; cases l_ <;> rfl) | (simp [errW_none, errW_some] <;> rfl) | (simp [*, errW_none, errW_some] <;> rfl), by repeat (first | (with_reducible first | exact HB.out | apply below_alloc | apply pw_below_drewN | apply below_drew1 | refine below_set ?_ GE276.out) | exact HB.out)⟩
            · rw [if_neg c71] at H
              exact absurd H (by simp)
          · rw [if_neg c70] at H
            exact absurd H (by simp)
  · replace c9 := Bool.eq_false_iff.mpr c9
    subst c9
    have H1 : (none) = some r := by rw [if_neg (show ¬ (false = true) by decide)] at H; exact H
    clear H
    have H := H1
    clear H1
    exact absurd H (by simp)

end Go.Proofs.YtgpekljckdgggaaGreatDoor.PAll
