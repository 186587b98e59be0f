-- Text by a program of this session, over what print.py prints.
import Derived.Test.YtmncflihmigdmaaDoorPAllx0
import Derived.Test.YtmncflihmigdmaaDoorPAllx2
import Derived.Test.YtmncflihmigdmaaDoorPAllx3
import Derived.Test.YtmncflihmigdmaaDoorPAllx4
import Derived.Test.YtmncflihmigdmaaDoorPAllx5
import Derived.Test.YtmncflihmigdmaaDoorPAllx6
namespace Go.Proofs.YtmncflihmigdmaaDoor.PAll
open Go.RowKit Go.Proofs.YtmncflihmigdmaaDoorW.PrintWords Go.Proofs.YtmncflihmigdmaaDoorW.PrintLast Go.Proofs.YtmncflihmigdmaaDoorW.PrintMore
attribute [local go_sem] max2_int min2_int max_two min_two max_three min_three max_four min_four   -- for this text's walks alone
set_option linter.unusedVariables false
set_option linter.unusedSimpArgs false

/-! ### pantrylaw03_FieldSets: function 4 -/
mutual
def pantrylaw03_FieldSets.j0 : Nat → List (S39) → List (S39) → Bool → Option (Bool)
  | 0, _, _, _ => none
  | k + 1, x0, x1, x30 => if x30 = true then (some true) else ((pantrymade_Fields.f k x0).bind fun t176 => ((pantrymade_Fields.f k x1).bind fun t179 => (pantrylaw03_FieldSets.l0 k x0 x1 t176 t179 (t179.length : Int) 0)))
def pantrylaw03_FieldSets.l0 : Nat → List (S39) → List (S39) → List (S36) → List (S36) → Int → Int → Option (Bool)
  | 0, _, _, _, _, _, _ => none
  | k + 1, x0, x1, x5, x34, x35, x36 => if x36 < x35 then (if 0 ≤ x36 then (if x36 < (x34.length : Int) then ((pantryref03_With.f k x5 ((rd_T36 x34 x36).f0) ((rd_T36 x34 x36).f1)).bind fun t184 => (pantrylaw03_FieldSets.l0 k x0 x1 t184 x34 x35 (wrap64 (x36 + 1)))) else (none)) else (none)) else ((field_List_With.f x0 x1).bind fun t187 => (pantrylaw03_FieldSets.l1 k x1 x5 t187 x1 (x1.length : Int) 0))
def pantrylaw03_FieldSets.l1 : Nat → List (S39) → List (S36) → List (S39) → List (S39) → Int → Int → Option (Bool)
  | 0, _, _, _, _, _, _ => none
  | k + 1, x1, x5, x8, x47, x48, x49 => if x49 < x48 then (if 0 ≤ x49 then (if x49 < (x47.length : Int) then (if 0 ≤ (wrap64 (x49 + 1)) then (if (wrap64 (x49 + 1)) ≤ (x1.length : Int) then ((some (x1.drop ((wrap64 (x49 + 1)) : Int).toNat : List (S39))).bind fun y196 => (pantrylaw03_FieldSets.l2 k x1 x5 x8 true x47 x48 x49 y196 (y196.length : Int) 0 ((rd_T39 x47 x49).f0) ((rd_T39 x47 x49).f1))) else (none)) else (none)) else (none)) else (none)) else ((pantrymade_Fields.f k x8).bind fun t190 => ((pantryref03_Same.f k t190 x5).bind fun t193 => (some t193)))
def pantrylaw03_FieldSets.l2 : Nat → List (S39) → List (S36) → List (S39) → Bool → List (S39) → Int → Int → List (S39) → Int → Int → ByteArray → ByteArray → Option (Bool)
  | 0, _, _, _, _, _, _, _, _, _, _, _, _ => none
  | k + 1, x1, x5, x8, x11, x47, x48, x49, x57, x58, x59, x196000, x196001 => if x59 < x58 then (if 0 ≤ x59 then (if x59 < (x57.length : Int) then (if x11 = true then ((pantryref01_Lower.f k x196000).bind fun t202 => ((pantryref01_Lower.f k ((rd_T39 x57 x59).f0)).bind fun t203 => (pantrylaw03_FieldSets.l2 k x1 x5 x8 (t202.toList != t203.toList) x47 x48 x49 x57 x58 (wrap64 (x59 + 1)) x196000 x196001))) else (pantrylaw03_FieldSets.l2 k x1 x5 x8 false x47 x48 x49 x57 x58 (wrap64 (x59 + 1)) x196000 x196001)) else (none)) else (none)) else ((field_List_Get.f k x8 x196000).bind fun bt204 => (if x11 = true then (if bt204.2 = true then (if bt204.1.toList = x196001.toList then ((field_List_All.f k x8 x196000).bind fun t206 => (if (t206.length : Int) = 1 then (pantrylaw03_FieldSets.l1 k x1 x5 x8 x47 x48 (wrap64 (x49 + 1))) else (some false))) else (some false)) else (some false)) else (pantrylaw03_FieldSets.l1 k x1 x5 x8 x47 x48 (wrap64 (x49 + 1)))))
end
def pantrylaw03_FieldSets.f (k : Nat) (l0 : List (S39)) (l1 : List (S39)) : Option (Bool) := (pantrylaw03_anchor.f k).bind fun t173 => (if t173 = true then ((pantrylaw03_small.f k l0).bind fun t174 => (if t174 = true then ((pantrylaw03_small.f k l1).bind fun t175 => (if t175 = true then (pantrylaw03_FieldSets.j0 k l0 l1 (decide ((l1.length : Int) > 20))) else (pantrylaw03_FieldSets.j0 k l0 l1 true))) else (pantrylaw03_FieldSets.j0 k l0 l1 true))) else (some false))
theorem pantrylaw03_FieldSets.mono_l : ∀ k, (∀ y0 y1 y2, LeO (pantrylaw03_FieldSets.j0 k y0 y1 y2) (pantrylaw03_FieldSets.j0 (k + 1) y0 y1 y2)) ∧ (∀ y0 y1 y2 y3 y4 y5, LeO (pantrylaw03_FieldSets.l0 k y0 y1 y2 y3 y4 y5) (pantrylaw03_FieldSets.l0 (k + 1) y0 y1 y2 y3 y4 y5)) ∧ (∀ y0 y1 y2 y3 y4 y5, LeO (pantrylaw03_FieldSets.l1 k y0 y1 y2 y3 y4 y5) (pantrylaw03_FieldSets.l1 (k + 1) y0 y1 y2 y3 y4 y5)) ∧ (∀ y0 y1 y2 y3 y4 y5 y6 y7 y8 y9 y10 y11, LeO (pantrylaw03_FieldSets.l2 k y0 y1 y2 y3 y4 y5 y6 y7 y8 y9 y10 y11) (pantrylaw03_FieldSets.l2 (k + 1) y0 y1 y2 y3 y4 y5 y6 y7 y8 y9 y10 y11))
  | 0 => ⟨fun _ _ _ r h => by simp [pantrylaw03_FieldSets.j0] at h, fun _ _ _ _ _ _ r h => by simp [pantrylaw03_FieldSets.l0] at h, fun _ _ _ _ _ _ r h => by simp [pantrylaw03_FieldSets.l1] at h, fun _ _ _ _ _ _ _ _ _ _ _ _ r h => by simp [pantrylaw03_FieldSets.l2] at h⟩
  | k + 1 => by
    obtain ⟨ih0, ih1, ih2, ih3⟩ := pantrylaw03_FieldSets.mono_l k
    refine ⟨?_, ?_, ?_, ?_⟩
    · intro y0 y1 y2
      unfold pantrylaw03_FieldSets.j0
      repeat' first
      | (with_reducible exact ih0 _ _ _)
      | (with_reducible exact ih1 _ _ _ _ _ _)
      | (with_reducible exact ih2 _ _ _ _ _ _)
      | (with_reducible exact ih3 _ _ _ _ _ _ _ _ _ _ _ _)
      | (with_reducible exact field_List_All.mono _ _ _)
      | (with_reducible exact field_List_Get.mono _ _ _)
      | (with_reducible exact pantrylaw03_anchor.mono _)
      | (with_reducible exact pantrylaw03_small.mono _ _)
      | (with_reducible exact pantrymade_Fields.mono _ _)
      | (with_reducible exact pantryref01_Lower.mono _ _)
      | (with_reducible exact pantryref03_Same.mono _ _ _)
      | (with_reducible exact pantryref03_With.mono _ _ _ _)
      | (with_reducible exact LeO.refl _)
      | (with_reducible exact LeO.none _)
      | (with_reducible refine LeO.ite ?_ ?_)
      | (with_reducible refine LeO.bind ?_ (fun _ => ?_))
      | exact ih0 _ _ _
      | exact ih1 _ _ _ _ _ _
      | exact ih2 _ _ _ _ _ _
      | exact ih3 _ _ _ _ _ _ _ _ _ _ _ _
      | exact field_List_All.mono _ _ _
      | exact field_List_Get.mono _ _ _
      | exact pantrylaw03_anchor.mono _
      | exact pantrylaw03_small.mono _ _
      | exact pantrymade_Fields.mono _ _
      | exact pantryref01_Lower.mono _ _
      | exact pantryref03_Same.mono _ _ _
      | exact pantryref03_With.mono _ _ _ _
      | exact LeO.none _
      | refine LeO.ite ?_ ?_
      | refine LeO.bind ?_ (fun _ => ?_)
    · intro y0 y1 y2 y3 y4 y5
      unfold pantrylaw03_FieldSets.l0
      repeat' first
      | (with_reducible exact ih0 _ _ _)
      | (with_reducible exact ih1 _ _ _ _ _ _)
      | (with_reducible exact ih2 _ _ _ _ _ _)
      | (with_reducible exact ih3 _ _ _ _ _ _ _ _ _ _ _ _)
      | (with_reducible exact field_List_All.mono _ _ _)
      | (with_reducible exact field_List_Get.mono _ _ _)
      | (with_reducible exact pantrylaw03_anchor.mono _)
      | (with_reducible exact pantrylaw03_small.mono _ _)
      | (with_reducible exact pantrymade_Fields.mono _ _)
      | (with_reducible exact pantryref01_Lower.mono _ _)
      | (with_reducible exact pantryref03_Same.mono _ _ _)
      | (with_reducible exact pantryref03_With.mono _ _ _ _)
      | (with_reducible exact LeO.refl _)
      | (with_reducible exact LeO.none _)
      | (with_reducible refine LeO.ite ?_ ?_)
      | (with_reducible refine LeO.bind ?_ (fun _ => ?_))
      | exact ih0 _ _ _
      | exact ih1 _ _ _ _ _ _
      | exact ih2 _ _ _ _ _ _
      | exact ih3 _ _ _ _ _ _ _ _ _ _ _ _
      | exact field_List_All.mono _ _ _
      | exact field_List_Get.mono _ _ _
      | exact pantrylaw03_anchor.mono _
      | exact pantrylaw03_small.mono _ _
      | exact pantrymade_Fields.mono _ _
      | exact pantryref01_Lower.mono _ _
      | exact pantryref03_Same.mono _ _ _
      | exact pantryref03_With.mono _ _ _ _
      | exact LeO.none _
      | refine LeO.ite ?_ ?_
      | refine LeO.bind ?_ (fun _ => ?_)
    · intro y0 y1 y2 y3 y4 y5
      unfold pantrylaw03_FieldSets.l1
      repeat' first
      | (with_reducible exact ih0 _ _ _)
      | (with_reducible exact ih1 _ _ _ _ _ _)
      | (with_reducible exact ih2 _ _ _ _ _ _)
      | (with_reducible exact ih3 _ _ _ _ _ _ _ _ _ _ _ _)
      | (with_reducible exact field_List_All.mono _ _ _)
      | (with_reducible exact field_List_Get.mono _ _ _)
      | (with_reducible exact pantrylaw03_anchor.mono _)
      | (with_reducible exact pantrylaw03_small.mono _ _)
      | (with_reducible exact pantrymade_Fields.mono _ _)
      | (with_reducible exact pantryref01_Lower.mono _ _)
      | (with_reducible exact pantryref03_Same.mono _ _ _)
      | (with_reducible exact pantryref03_With.mono _ _ _ _)
      | (with_reducible exact LeO.refl _)
      | (with_reducible exact LeO.none _)
      | (with_reducible refine LeO.ite ?_ ?_)
      | (with_reducible refine LeO.bind ?_ (fun _ => ?_))
      | exact ih0 _ _ _
      | exact ih1 _ _ _ _ _ _
      | exact ih2 _ _ _ _ _ _
      | exact ih3 _ _ _ _ _ _ _ _ _ _ _ _
      | exact field_List_All.mono _ _ _
      | exact field_List_Get.mono _ _ _
      | exact pantrylaw03_anchor.mono _
      | exact pantrylaw03_small.mono _ _
      | exact pantrymade_Fields.mono _ _
      | exact pantryref01_Lower.mono _ _
      | exact pantryref03_Same.mono _ _ _
      | exact pantryref03_With.mono _ _ _ _
      | exact LeO.none _
      | refine LeO.ite ?_ ?_
      | refine LeO.bind ?_ (fun _ => ?_)
    · intro y0 y1 y2 y3 y4 y5 y6 y7 y8 y9 y10 y11
      unfold pantrylaw03_FieldSets.l2
      repeat' first
      | (with_reducible exact ih0 _ _ _)
      | (with_reducible exact ih1 _ _ _ _ _ _)
      | (with_reducible exact ih2 _ _ _ _ _ _)
      | (with_reducible exact ih3 _ _ _ _ _ _ _ _ _ _ _ _)
      | (with_reducible exact field_List_All.mono _ _ _)
      | (with_reducible exact field_List_Get.mono _ _ _)
      | (with_reducible exact pantrylaw03_anchor.mono _)
      | (with_reducible exact pantrylaw03_small.mono _ _)
      | (with_reducible exact pantrymade_Fields.mono _ _)
      | (with_reducible exact pantryref01_Lower.mono _ _)
      | (with_reducible exact pantryref03_Same.mono _ _ _)
      | (with_reducible exact pantryref03_With.mono _ _ _ _)
      | (with_reducible exact LeO.refl _)
      | (with_reducible exact LeO.none _)
      | (with_reducible refine LeO.ite ?_ ?_)
      | (with_reducible refine LeO.bind ?_ (fun _ => ?_))
      | exact ih0 _ _ _
      | exact ih1 _ _ _ _ _ _
      | exact ih2 _ _ _ _ _ _
      | exact ih3 _ _ _ _ _ _ _ _ _ _ _ _
      | exact field_List_All.mono _ _ _
      | exact field_List_Get.mono _ _ _
      | exact pantrylaw03_anchor.mono _
      | exact pantrylaw03_small.mono _ _
      | exact pantrymade_Fields.mono _ _
      | exact pantryref01_Lower.mono _ _
      | exact pantryref03_Same.mono _ _ _
      | exact pantryref03_With.mono _ _ _ _
      | exact LeO.none _
      | refine LeO.ite ?_ ?_
      | refine LeO.bind ?_ (fun _ => ?_)
theorem pantrylaw03_FieldSets.mono : ∀ a0 a1 k, LeO (pantrylaw03_FieldSets.f k a0 a1) (pantrylaw03_FieldSets.f (k + 1) a0 a1) := by
  intro a0 a1 k
  obtain ⟨ih0, ih1, ih2, ih3⟩ := pantrylaw03_FieldSets.mono_l k
  unfold pantrylaw03_FieldSets.f
  repeat' first
      | (with_reducible exact ih0 _ _ _)
      | (with_reducible exact ih1 _ _ _ _ _ _)
      | (with_reducible exact ih2 _ _ _ _ _ _)
      | (with_reducible exact ih3 _ _ _ _ _ _ _ _ _ _ _ _)
      | (with_reducible exact field_List_All.mono _ _ _)
      | (with_reducible exact field_List_Get.mono _ _ _)
      | (with_reducible exact pantrylaw03_anchor.mono _)
      | (with_reducible exact pantrylaw03_small.mono _ _)
      | (with_reducible exact pantrymade_Fields.mono _ _)
      | (with_reducible exact pantryref01_Lower.mono _ _)
      | (with_reducible exact pantryref03_Same.mono _ _ _)
      | (with_reducible exact pantryref03_With.mono _ _ _ _)
      | (with_reducible exact LeO.refl _)
      | (with_reducible exact LeO.none _)
      | (with_reducible refine LeO.ite ?_ ?_)
      | (with_reducible refine LeO.bind ?_ (fun _ => ?_))
      | exact ih0 _ _ _
      | exact ih1 _ _ _ _ _ _
      | exact ih2 _ _ _ _ _ _
      | exact ih3 _ _ _ _ _ _ _ _ _ _ _ _
      | exact field_List_All.mono _ _ _
      | exact field_List_Get.mono _ _ _
      | exact pantrylaw03_anchor.mono _
      | exact pantrylaw03_small.mono _ _
      | exact pantrymade_Fields.mono _ _
      | exact pantryref01_Lower.mono _ _
      | exact pantryref03_Same.mono _ _ _
      | exact pantryref03_With.mono _ _ _ _
      | exact LeO.none _
      | refine LeO.ite ?_ ?_
      | refine LeO.bind ?_ (fun _ => ?_)
def pantrylaw03_FieldSets.T19 : Bool × List (List Nat × List Nat) := (true, [([], []), ([0], [0]), ([1], [1]), ([2, 1], [1, 2]), ([3, 1, 1], [1, 3]), ([1], [1]), ([5, 1], [1, 5]), ([6, 4, 1], [1, 6]), ([4, 7, 1], [1, 4, 7]), ([1, 8], [1, 8]), ([9, 7, 0, 1, 2, 3, 4, 5, 6, 7, 8, 9], [0, 9])])
def pantrylaw03_FieldSets.B19 : List Nat := [0, 1, 3, 7, 15, 3, 35, 127, 255, 511, 1023]
theorem pantrylaw03_FieldSets.tab19 : rtab .any (opsOf Tryd.f4 19) = pantrylaw03_FieldSets.T19 := by kernel_rfl
theorem pantrylaw03_FieldSets.bits19 : waitsOk pantrylaw03_FieldSets.T19.2 pantrylaw03_FieldSets.B19 = true := by kernel_rfl
set_option maxHeartbeats 8000000 in
set_option maxRecDepth 100000 in
theorem pantrylaw03_FieldSets.calls (k : Nat) (A0 : Option Addr) (c0 : Nat) (l0 : List (S39)) (A1 : Option Addr) (c1 : Nat) (l1 : List (S39)) (r : Bool) (w : World) (hr0 : Kd.C k39 w A0 l0.length l0) (hc0 : l0.length ≤ c0) (hr1 : Kd.C k39 w A1 l1.length l1) (hc1 : l1.length ≤ c1) (h : pantrylaw03_FieldSets.f k l0 l1 = some r) :
    Calls Tryd.prog 4 #[.slice A0 l0.length c0, .slice A1 l1.length c1] w fun e w' => e = .returned (.bool r) ∧ Below w.heap.size w w' := by
  have hu36 := Tryd.underlying36
  have hu39 := Tryd.underlying39
  have HR0 := Aside0.mk hr0
  have HC0 := Aside0.mk hc0
  clear hr0 hc0
  have HR1 := Aside0.mk hr1
  have HC1 := Aside0.mk hc1
  clear hr1 hc1
  have HB := Aside0.mk (Below.refl w.heap.size w)
  have H : ((pantrylaw03_anchor.f k).bind fun t173 => (if t173 = true then ((pantrylaw03_small.f k l0).bind fun t174 => (if t174 = true then ((pantrylaw03_small.f k l1).bind fun t175 => (if t175 = true then (pantrylaw03_FieldSets.j0 k l0 l1 (decide ((l1.length : Int) > 20))) else (pantrylaw03_FieldSets.j0 k l0 l1 true))) else (pantrylaw03_FieldSets.j0 k l0 l1 true))) else (some false))) = some r := h
  clear h
  replace H := Option.bind_eq_some_iff.mp H
  obtain ⟨t173, A30, H⟩ := H
  replace H : (if t173 = true then ((pantrylaw03_small.f k l0).bind fun t174 => (if t174 = true then ((pantrylaw03_small.f k l1).bind fun t175 => (if t175 = true then (pantrylaw03_FieldSets.j0 k l0 l1 (decide ((l1.length : Int) > 20))) else (pantrylaw03_FieldSets.j0 k l0 l1 true))) else (pantrylaw03_FieldSets.j0 k l0 l1 true))) else (some false)) = some r := H
  have A3 := Aside0.mk A30
  clear A30
  by_cases c4 : t173 = true
  · subst c4
    have H1 : ((pantrylaw03_small.f k l0).bind fun t174 => (if t174 = true then ((pantrylaw03_small.f k l1).bind fun t175 => (if t175 = true then (pantrylaw03_FieldSets.j0 k l0 l1 (decide ((l1.length : Int) > 20))) else (pantrylaw03_FieldSets.j0 k l0 l1 true))) else (pantrylaw03_FieldSets.j0 k l0 l1 true))) = some r := by rw [if_pos rfl] at H; exact H
    clear H
    have H := H1
    clear H1
    have HC5 := Aside0.mk H
    clear H
    go_enter Tryd.func4, Tryd.ntmps4
    go_upto_region 3 with (first | ((with_reducible refine gate_callee (f := 10) rfl ?_); refine goesL_ (some 16) rfl rfl Tryd.func10 (by kernel_rfl) rfl #[] rfl (by (try simp only [List.map_toArray, List.map_cons, List.map_nil]); first | done | rfl | (simp only [List.length_drop, List.length_take]; rfl)) ?_; (with_reducible refine (pantrylaw03_anchor.calls k  true _ A3.out).mono ?_); rintro e w6 ⟨rfl, hb⟩; refine ⟨_, rfl, ?_⟩; have n0_ := Aside0.mk (below_step (by repeat (first | (with_reducible first | exact HB.out | apply below_alloc | apply pw_below_drewN | apply below_drew1) | exact HB.out)) hb); clear HB; have HB := n0_; clear n0_; (try clear hb); (try clear hb2); (try clear hk); (try clear hi)))
    (try simp only [Act.put, List.setIfInBounds_toArray, List.set_cons_zero, List.set_cons_succ])
    go_cut [30] (fun v30 wc => ∃ (kq : Nat) (x30_4 : Bool), v30 = .bool x30_4 ∧ Aside0 (pantrylaw03_FieldSets.j0 kq l0 l1 x30_4 = some r) ∧ Aside0 (kq ≤ k) ∧ Aside0 (Below w.heap.size w wc))
    case first =>
      have H := HC5.out
      clear HC5
      replace H := Option.bind_eq_some_iff.mp H
      obtain ⟨t174, A70, H⟩ := H
      replace H : (if t174 = true then ((pantrylaw03_small.f k l1).bind fun t175 => (if t175 = true then (pantrylaw03_FieldSets.j0 k l0 l1 (decide ((l1.length : Int) > 20))) else (pantrylaw03_FieldSets.j0 k l0 l1 true))) else (pantrylaw03_FieldSets.j0 k l0 l1 true)) = some r := H
      have A7 := Aside0.mk A70
      clear A70
      by_cases c8 : t174 = true
      · subst c8
        have H1 : ((pantrylaw03_small.f k l1).bind fun t175 => (if t175 = true then (pantrylaw03_FieldSets.j0 k l0 l1 (decide ((l1.length : Int) > 20))) else (pantrylaw03_FieldSets.j0 k l0 l1 true))) = some r := by rw [if_pos rfl] at H; exact H
        clear H
        have H := H1
        clear H1
        replace H := Option.bind_eq_some_iff.mp H
        obtain ⟨t175, A90, H⟩ := H
        replace H : (if t175 = true then (pantrylaw03_FieldSets.j0 k l0 l1 (decide ((l1.length : Int) > 20))) else (pantrylaw03_FieldSets.j0 k l0 l1 true)) = some r := H
        have A9 := Aside0.mk A90
        clear A90
        by_cases c10 : t175 = true
        · subst c10
          have H1 : (pantrylaw03_FieldSets.j0 k l0 l1 (decide ((l1.length : Int) > 20))) = some r := by rw [if_pos rfl] at H; exact H
          clear H
          have H := H1
          clear H1
          have H' := Aside0.mk H
          clear H
          go_wp2_with (first | ((with_reducible refine gate_callee (f := 11) rfl ?_); refine goesL_ (some 19) rfl rfl Tryd.func11 (by kernel_rfl) rfl #[.slice A0 l0.length c0] rfl (by (try simp only [List.map_toArray, List.map_cons, List.map_nil]); first | done | rfl | (simp only [List.length_drop, List.length_take]; rfl)) ?_; (with_reducible refine (pantrylaw03_small.calls k _ _ l0 true _ ?side1 ?side2 A7.out).mono ?_); (case side1 => repeat (first | exact (Kd.C_below HR0.out HB.out) | (with_reducible refine Kd.C_alloc ?_ _) | (with_reducible refine Kd.C_drewN ?_ _) | (with_reducible refine Kd.C_drew ?_))); (case side2 => exact HC0.out); rintro e w11 ⟨rfl, hb⟩; refine ⟨_, rfl, ?_⟩; have n0_ := Aside0.mk (below_step (by repeat (first | (with_reducible first | exact HB.out | apply below_alloc | apply pw_below_drewN | apply below_drew1) | exact HB.out)) hb); clear HB; have HB := n0_; clear n0_; (try clear hb); (try clear hb2); (try clear hk); (try clear hi)) | (go_at_call 11; (with_reducible refine (pantrylaw03_small.calls k _ _ l1 true _ ?side1 ?side2 A9.out).mono ?_); (case side1 => repeat (first | exact (Kd.C_below HR1.out HB.out) | (with_reducible refine Kd.C_alloc ?_ _) | (with_reducible refine Kd.C_drewN ?_ _) | (with_reducible refine Kd.C_drew ?_))); (case side2 => exact HC1.out); rintro e w12 ⟨rfl, hb⟩; have n0_ := Aside0.mk (below_step (by repeat (first | (with_reducible first | exact HB.out | apply below_alloc | apply pw_below_drewN | apply below_drew1) | exact HB.out)) hb); clear HB; have HB := n0_; clear n0_; (try clear hb); (try clear hb2); (try clear hk); (try clear hi)))
          go_meet
          case rel => exact ⟨_, (decide ((l1.length : Int) > 20)), (by first | rfl | (simp; done) | (simp [*]; done)), H', ⟨by first | omega | exact Nat.le_refl _⟩, ⟨by repeat (first | (with_reducible first | exact HB.out | apply below_alloc | apply pw_below_drewN | apply below_drew1) | exact HB.out)⟩⟩
        · replace c10 := Bool.eq_false_iff.mpr c10
          subst c10
          have H1 : (pantrylaw03_FieldSets.j0 k l0 l1 true) = some r := by rw [if_neg (show ¬ (false = true) by decide)] at H; exact H
          clear H
          have H := H1
          clear H1
          have H' := Aside0.mk H
          clear H
          go_wp2_with (first | ((with_reducible refine gate_callee (f := 11) rfl ?_); refine goesL_ (some 19) rfl rfl Tryd.func11 (by kernel_rfl) rfl #[.slice A0 l0.length c0] rfl (by (try simp only [List.map_toArray, List.map_cons, List.map_nil]); first | done | rfl | (simp only [List.length_drop, List.length_take]; rfl)) ?_; (with_reducible refine (pantrylaw03_small.calls k _ _ l0 true _ ?side1 ?side2 A7.out).mono ?_); (case side1 => repeat (first | exact (Kd.C_below HR0.out HB.out) | (with_reducible refine Kd.C_alloc ?_ _) | (with_reducible refine Kd.C_drewN ?_ _) | (with_reducible refine Kd.C_drew ?_))); (case side2 => exact HC0.out); rintro e w13 ⟨rfl, hb⟩; refine ⟨_, rfl, ?_⟩; have n0_ := Aside0.mk (below_step (by repeat (first | (with_reducible first | exact HB.out | apply below_alloc | apply pw_below_drewN | apply below_drew1) | exact HB.out)) hb); clear HB; have HB := n0_; clear n0_; (try clear hb); (try clear hb2); (try clear hk); (try clear hi)) | (go_at_call 11; (with_reducible refine (pantrylaw03_small.calls k _ _ l1 false _ ?side1 ?side2 A9.out).mono ?_); (case side1 => repeat (first | exact (Kd.C_below HR1.out HB.out) | (with_reducible refine Kd.C_alloc ?_ _) | (with_reducible refine Kd.C_drewN ?_ _) | (with_reducible refine Kd.C_drew ?_))); (case side2 => exact HC1.out); rintro e w14 ⟨rfl, hb⟩; have n0_ := Aside0.mk (below_step (by repeat (first | (with_reducible first | exact HB.out | apply below_alloc | apply pw_below_drewN | apply below_drew1) | exact HB.out)) hb); clear HB; have HB := n0_; clear n0_; (try clear hb); (try clear hb2); (try clear hk); (try clear hi)))
          go_meet
          case rel => exact ⟨_, (true), (by first | rfl | (simp; done) | (simp [*]; done)), H', ⟨by first | omega | exact Nat.le_refl _⟩, ⟨by repeat (first | (with_reducible first | exact HB.out | apply below_alloc | apply pw_below_drewN | apply below_drew1) | exact HB.out)⟩⟩
      · replace c8 := Bool.eq_false_iff.mpr c8
        subst c8
        have H1 : (pantrylaw03_FieldSets.j0 k l0 l1 true) = some r := by rw [if_neg (show ¬ (false = true) by decide)] at H; exact H
        clear H
        have H := H1
        clear H1
        have H' := Aside0.mk H
        clear H
        go_wp2_with (first | ((with_reducible refine gate_callee (f := 11) rfl ?_); refine goesL_ (some 19) rfl rfl Tryd.func11 (by kernel_rfl) rfl #[.slice A0 l0.length c0] rfl (by (try simp only [List.map_toArray, List.map_cons, List.map_nil]); first | done | rfl | (simp only [List.length_drop, List.length_take]; rfl)) ?_; (with_reducible refine (pantrylaw03_small.calls k _ _ l0 false _ ?side1 ?side2 A7.out).mono ?_); (case side1 => repeat (first | exact (Kd.C_below HR0.out HB.out) | (with_reducible refine Kd.C_alloc ?_ _) | (with_reducible refine Kd.C_drewN ?_ _) | (with_reducible refine Kd.C_drew ?_))); (case side2 => exact HC0.out); rintro e w15 ⟨rfl, hb⟩; refine ⟨_, rfl, ?_⟩; have n0_ := Aside0.mk (below_step (by repeat (first | (with_reducible first | exact HB.out | apply below_alloc | apply pw_below_drewN | apply below_drew1) | exact HB.out)) hb); clear HB; have HB := n0_; clear n0_; (try clear hb); (try clear hb2); (try clear hk); (try clear hi)))
        go_meet
        case rel => exact ⟨_, (true), (by first | rfl | (simp; done) | (simp [*]; done)), H', ⟨by first | omega | exact Nat.le_refl _⟩, ⟨by repeat (first | (with_reducible first | exact HB.out | apply below_alloc | apply pw_below_drewN | apply below_drew1) | exact HB.out)⟩⟩
    case rest =>
      clear HC5
      try clear c1
      try clear p2
      try clear c4
      try clear c8
      try clear c10
      try clear c11
      obtain ⟨kq, x30_4, rfl, HA, HJ4, HB⟩ := hcut
      cases kq with
      | zero => exact absurd HA.out (by simp [pantrylaw03_FieldSets.j0])
      | succ kj4 =>
        have H := HA.out
        clear HA
        simp only [pantrylaw03_FieldSets.j0] at H
        by_cases c16 : x30_4 = true
        · subst c16
          have H1 : (some true) = some r := by rw [if_pos rfl] at H; exact H
          clear H
          have H := H1
          clear H1
          obtain rfl := Option.some.inj H
          go_wp2
          go_ret
          exact ⟨by first | rfl | (generalize ByteArray.toList _ = l_; cases l_ <;> rfl) | (simp [errW_none, errW_some] <;> rfl) | (simp [*, errW_none, errW_some] <;> rfl), by repeat (first | (with_reducible first | exact HB.out | apply below_alloc | apply pw_below_drewN | apply below_drew1) | exact HB.out)⟩
        · replace c16 := Bool.eq_false_iff.mpr c16
          subst c16
          have H1 : ((pantrymade_Fields.f kj4 l0).bind fun t176 => ((pantrymade_Fields.f kj4 l1).bind fun t179 => (pantrylaw03_FieldSets.l0 kj4 l0 l1 t176 t179 (t179.length : Int) 0))) = some r := by rw [if_neg (show ¬ (false = true) by decide)] at H; exact H
          clear H
          have H := H1
          clear H1
          replace H := Option.bind_eq_some_iff.mp H
          obtain ⟨t176, A170, H⟩ := H
          replace H : ((pantrymade_Fields.f kj4 l1).bind fun t179 => (pantrylaw03_FieldSets.l0 kj4 l0 l1 t176 t179 (t179.length : Int) 0)) = some r := H
          have A17 := Aside0.mk A170
          clear A170
          replace H := Option.bind_eq_some_iff.mp H
          obtain ⟨t179, A180, H⟩ := H
          replace H : (pantrylaw03_FieldSets.l0 kj4 l0 l1 t176 t179 (t179.length : Int) 0) = some r := H
          have A18 := Aside0.mk A180
          clear A180
          have H' := Aside0.mk H
          clear H
          go_wp2_with (first | ((with_reducible refine gate_callee (f := 12) rfl ?_); refine goesL_ (some 32) rfl rfl Tryd.func12 (by kernel_rfl) rfl #[.slice A0 l0.length c0] rfl (by (try simp only [List.map_toArray, List.map_cons, List.map_nil]); first | done | rfl | (simp only [List.length_drop, List.length_take]; rfl)) ?_; (with_reducible refine (pantrymade_Fields.calls kj4 _ _ l0 t176 _ ?side1 ?side2 A17.out).mono ?_); (case side1 => repeat (first | exact (Kd.C_below HR0.out HB.out) | (with_reducible refine Kd.C_alloc ?_ _) | (with_reducible refine Kd.C_drewN ?_ _) | (with_reducible refine Kd.C_drew ?_))); (case side2 => exact HC0.out); rintro e w19 ⟨v177, rfl, ho0, hb⟩; refine ⟨_, rfl, ?_⟩; have n0_ := Aside0.mk (Kd.R_lower ho0 (below_size (by repeat (first | (with_reducible first | exact HB.out | apply below_alloc | apply pw_below_drewN | apply below_drew1) | exact HB.out)))); have n1_ := Aside0.mk (below_step (by repeat (first | (with_reducible first | exact HB.out | apply below_alloc | apply pw_below_drewN | apply below_drew1) | exact HB.out)) hb); clear HB; have HO178 := n0_; have HB := n1_; clear n0_ n1_; (try clear hb); (try clear hb2); (try clear hk); (try clear hi); (try clear ho0)) | ((with_reducible refine gate_callee (f := 12) rfl ?_); refine goesL_ (some 34) rfl rfl Tryd.func12 (by kernel_rfl) rfl #[.slice A1 l1.length c1] rfl (by (try simp only [List.map_toArray, List.map_cons, List.map_nil]); first | done | rfl | (simp only [List.length_drop, List.length_take]; rfl)) ?_; (with_reducible refine (pantrymade_Fields.calls kj4 _ _ l1 t179 _ ?side1 ?side2 A18.out).mono ?_); (case side1 => repeat (first | exact (Kd.C_below HR1.out HB.out) | (with_reducible refine Kd.C_alloc ?_ _) | (with_reducible refine Kd.C_drewN ?_ _) | (with_reducible refine Kd.C_drew ?_))); (case side2 => exact HC1.out); rintro e w20 ⟨v180, rfl, ho0, hb⟩; refine ⟨_, rfl, ?_⟩; have n0_ := Aside0.mk (Kd.R_elder' (by (with_reducible repeat (first | apply Kd.R_alloc | apply Kd.R_drewN | apply Kd.R_drew)); exact HO178.out) (Kd.R_base ho0) hb); have n1_ := Aside0.mk (Kd.R_lower (Kd.R_new' ho0 (Kd.R_lt (by (with_reducible repeat (first | apply Kd.R_alloc | apply Kd.R_drewN | apply Kd.R_drew)); exact HO178.out))) (below_size (by repeat (first | (with_reducible first | exact HB.out | apply below_alloc | apply pw_below_drewN | apply below_drew1) | exact HB.out)))); have n2_ := Aside0.mk (below_step (by repeat (first | (with_reducible first | exact HB.out | apply below_alloc | apply pw_below_drewN | apply below_drew1) | exact HB.out)) hb); clear HO178; clear HB; have HO178 := n0_; have HO181 := n1_; have HB := n2_; clear n0_ n1_ n2_; (try clear hb); (try clear hb2); (try clear hk); (try clear hi); (try clear ho0); obtain ⟨Ao21, co21, eo21⟩ := Kd.R_slice HO181.out; subst eo21))
          go_loopg [5, 36] kj4 (fun kq v5 v36 w' => ∃ (x5_2 : List (S36)) (x36_2 : Int), v36 = .int .i64 x36_2 ∧ Aside0 (pantrylaw03_FieldSets.l0 kq l0 l1 x5_2 t179 (t179.length : Int) x36_2 = some r) ∧ Aside0 (kq ≤ kj4) ∧ Aside0 (Kd.R k36 36 w' w.heap.size (fun k_ => some k_ ≠ ((.slice Ao21 t179.length co21) : Value).ownBlock) v5 x5_2) ∧ Aside0 (Kd.R k36 36 w' w.heap.size (fun k_ => some k_ ≠ (v5 : Value).ownBlock) (.slice Ao21 t179.length co21) t179) ∧ Aside0 (Below w.heap.size w w'))
          case atStart => exact ⟨(t176), (0), (by first | rfl | (simp; done) | (simp [*]; done)), H', ⟨Nat.le_refl _⟩, ⟨by (with_reducible repeat (first | apply Kd.R_alloc | apply Kd.R_drewN | apply Kd.R_drew)); exact Kd.R_mono HO178.out (fun _ hk => hk.2)⟩, ⟨by (with_reducible repeat (first | apply Kd.R_alloc | apply Kd.R_drewN | apply Kd.R_drew)); exact Kd.R_mono HO181.out (fun _ hk => hk.2)⟩, ⟨by repeat (first | (with_reducible first | exact HB.out | apply below_alloc | apply pw_below_drewN | apply below_drew1) | exact HB.out)⟩⟩
          case round =>
            clear H'
            try clear c1
            try clear p2
            try clear c4
            try clear c8
            try clear c10
            try clear c11
            try clear c12
            try clear c16
            try clear p2
            obtain ⟨x5_2, x36_2, rfl, HA, HK2, HO_5, HO_34, HB⟩ := hrel
            cases gk with
            | zero => exact absurd HA.out (by simp [pantrylaw03_FieldSets.l0])
            | succ k2 =>
              have H := HA.out
              clear HA
              simp only [pantrylaw03_FieldSets.l0] at H
              by_cases c22 : x36_2 < (t179.length : Int)
              · rw [if_pos c22] at H
                have c22b0 : decide (x36_2 < (t179.length : Int)) = true := decide_eq_true c22
                clear c22
                by_cases c23 : 0 ≤ x36_2
                · rw [if_pos c23] at H
                  have c23b0 : decide (0 ≤ x36_2) = true := decide_eq_true c23
                  clear c23
                  by_cases c24 : x36_2 < (t179.length : Int)
                  · rw [if_pos c24] at H
                    have c24b0 : decide (x36_2 < (t179.length : Int)) = true := decide_eq_true c24
                    clear c24
                    replace H := Option.bind_eq_some_iff.mp H
                    obtain ⟨t184, A250, H⟩ := H
                    replace H : (pantrylaw03_FieldSets.l0 k2 l0 l1 t184 t179 (t179.length : Int) (wrap64 (x36_2 + 1))) = some r := H
                    have A25 := Aside0.mk A250
                    clear A250
                    have H' := Aside0.mk H
                    clear H
                    have p182 : 0 ≤ (x36_2 : Int) := of_decide_eq_true (by first | (with_reducible assumption) | assumption)
                    have q182 : x36_2 < (t179.length : Int) := of_decide_eq_true (by first | (with_reducible assumption) | assumption)
                    obtain ⟨ad182, e182, hx182_0, hx182_1⟩ := at_T36 (Kd.R_reads' HO_34.out).2.2 x36_2 p182 q182
                    cases e182
                    replace p182 := eq_true p182
                    replace q182 := eq_true q182
                    go_wp2_with (first | ((with_reducible refine gate_dst (N := 7) rfl ?_); (try (refine gate_guard (by rfl) ?_; dsimp only)); refine box_event ?hg (N := 7) ?hd (cs := #[.string (⟨#[]⟩ : ByteArray), .string (⟨#[]⟩ : ByteArray)]) (t := 36) ?hr ?_; (case hd => rfl); (case hg => rfl); (case hr => first | (go_simp; done) | (go_simp; rfl)); intro gb183 hg w26 hbox hb; have n0_ := Aside0.mk (Kd.R_below (Kd.R_elderB (by (with_reducible repeat (first | apply Kd.R_alloc | apply Kd.R_drewN | apply Kd.R_drew)); exact HO_5.out) gb183 (Nat.le_of_eq hg.symm)) hb); have n1_ := Aside0.mk (Kd.R_below (Kd.R_elderB (by (with_reducible repeat (first | apply Kd.R_alloc | apply Kd.R_drewN | apply Kd.R_drew)); exact HO_34.out) gb183 (Nat.le_of_eq hg.symm)) hb); have n2_ := Aside0.mk (below_step (by repeat (first | (with_reducible first | exact HB.out | apply below_alloc | apply pw_below_drewN | apply below_drew1) | exact HB.out)) hb); have n3_ := Aside0.mk (hbox); have n4_ := Aside0.mk ((by rw [hg]; exact (below_size (by repeat (first | (with_reducible first | exact HB.out | apply below_alloc | apply pw_below_drewN | apply below_drew1) | exact HB.out))) : w.heap.size ≤ gb183)); have n5_ := Aside0.mk ((by rw [hg]; exact (below_size (by repeat (first | (with_reducible first | exact HB.out | apply below_alloc | apply pw_below_drewN | apply below_drew1) | exact HB.out))) : w.heap.size ≤ gb183)); clear HO_5; clear HO_34; clear HB; have HO_5 := n0_; have HO_34 := n1_; have HB := n2_; have BK183 := n3_; have GW183 := n4_; have GE183 := n5_; clear n0_ n1_ n2_ n3_ n4_ n5_; clear hb hbox hg; have hcz27_0 : w26.cell? ⟨gb183, 0, none⟩ = some (.string (⟨#[]⟩ : ByteArray)) := (blk_cell BK183.out 0).trans rfl; have hcz27_1 : w26.cell? ⟨gb183, 1, none⟩ = some (.string (⟨#[]⟩ : ByteArray)) := (blk_cell BK183.out 1).trans rfl; have hfz27_0 := blk_frozen BK183.out 0; have hfz27_1 := blk_frozen BK183.out 1; obtain ⟨Ao28, co28, eo28⟩ := Kd.R_slice HO_5.out; subst eo28) | ((with_reducible refine gate_callee (f := 17) rfl ?_); refine goesL_ (some 42) rfl rfl Tryd.func17 (by kernel_rfl) rfl #[.slice Ao28 x5_2.length co28, .agg #[.string ((rd_T36 t179 x36_2).f0), .string ((rd_T36 t179 x36_2).f1)]] rfl (by (try simp only [List.map_toArray, List.map_cons, List.map_nil]); first | done | rfl | (simp only [List.length_drop, List.length_take]; rfl)) ?_; (with_reducible refine (pantryref03_With.calls k2 _ _ x5_2 ((rd_T36 t179 x36_2).f0) ((rd_T36 t179 x36_2).f1) t184 _ ?side1 ?side2 A25.out).mono ?_); (case side1 => refine (Kd.R_reads' (e := 36) (base := w.heap.size) (ok := fun k_ => (some k_ ≠ (.slice (some ad182) t179.length co21 : Value).ownBlock ∧ k_ ≠ gb183)) (n := x5_2.length) (c := co28) ?_).2.2; exact (by (with_reducible repeat (first | apply Kd.R_alloc | apply Kd.R_drewN | apply Kd.R_drew)); exact (Kd.R_mono (Kd.R_far (p := ⟨gb183, 1, none⟩) (Kd.R_far (p := ⟨gb183, 0, none⟩) (Kd.R_mono HO_5.out (fun k_ hk => (⟨hk, hk.2⟩ : _ ∧ k_ ≠ gb183))) (fun _ hk => hk.2) (.string ((rd_T36 t179 x36_2).f0))) (fun _ hk => hk.2) (.string ((rd_T36 t179 x36_2).f1))) (fun _ h_ => h_.1)))); (case side2 => exact (Kd.R_reads' HO_5.out).2.1); rintro e w29 ⟨v185, rfl, ho0, hb⟩; refine ⟨_, rfl, ?_⟩; have n0_ := Aside0.mk (Kd.R_elder' (by (with_reducible repeat (first | apply Kd.R_alloc | apply Kd.R_drewN | apply Kd.R_drew)); exact (Kd.R_mono (Kd.R_far (p := ⟨gb183, 1, none⟩) (Kd.R_far (p := ⟨gb183, 0, none⟩) (Kd.R_mono HO_5.out (fun k_ hk => (⟨hk, hk.2⟩ : _ ∧ k_ ≠ gb183))) (fun _ hk => hk.2) (.string ((rd_T36 t179 x36_2).f0))) (fun _ hk => hk.2) (.string ((rd_T36 t179 x36_2).f1))) (fun _ h_ => h_.1))) (Kd.R_base ho0) hb); have n1_ := Aside0.mk (Kd.R_elder' (by (with_reducible repeat (first | apply Kd.R_alloc | apply Kd.R_drewN | apply Kd.R_drew)); exact (Kd.R_mono (Kd.R_far (p := ⟨gb183, 1, none⟩) (Kd.R_far (p := ⟨gb183, 0, none⟩) (Kd.R_mono HO_34.out (fun k_ hk => (⟨hk, hk.2⟩ : _ ∧ k_ ≠ gb183))) (fun _ hk => hk.2) (.string ((rd_T36 t179 x36_2).f0))) (fun _ hk => hk.2) (.string ((rd_T36 t179 x36_2).f1))) (fun _ h_ => h_.1))) (Kd.R_base ho0) hb); have n2_ := Aside0.mk (Kd.R_lower (Kd.R_newB (Kd.R_new' (Kd.R_new' ho0 (Kd.R_lt (by (with_reducible repeat (first | apply Kd.R_alloc | apply Kd.R_drewN | apply Kd.R_drew)); exact (Kd.R_mono (Kd.R_far (p := ⟨gb183, 1, none⟩) (Kd.R_far (p := ⟨gb183, 0, none⟩) (Kd.R_mono HO_5.out (fun k_ hk => (⟨hk, hk.2⟩ : _ ∧ k_ ≠ gb183))) (fun _ hk => hk.2) (.string ((rd_T36 t179 x36_2).f0))) (fun _ hk => hk.2) (.string ((rd_T36 t179 x36_2).f1))) (fun _ h_ => h_.1))))) (Kd.R_lt (by (with_reducible repeat (first | apply Kd.R_alloc | apply Kd.R_drewN | apply Kd.R_drew)); exact (Kd.R_mono (Kd.R_far (p := ⟨gb183, 1, none⟩) (Kd.R_far (p := ⟨gb183, 0, none⟩) (Kd.R_mono HO_34.out (fun k_ hk => (⟨hk, hk.2⟩ : _ ∧ k_ ≠ gb183))) (fun _ hk => hk.2) (.string ((rd_T36 t179 x36_2).f0))) (fun _ hk => hk.2) (.string ((rd_T36 t179 x36_2).f1))) (fun _ h_ => h_.1))))) (g := gb183) (o := .cells #[.string ((rd_T36 t179 x36_2).f0), .string ((rd_T36 t179 x36_2).f1)] 36 (0, 0)) (by (with_reducible repeat (first | refine blk_drewN ?_ _ | refine blk_drew ?_ | refine blk_alloc ?_ _)); refine blk_put (cs := #[.string ((rd_T36 t179 x36_2).f0), .string (⟨#[]⟩ : ByteArray)]) ?_ 1 _ rfl; (with_reducible repeat (first | refine blk_drewN ?_ _ | refine blk_drew ?_ | refine blk_alloc ?_ _)); refine blk_put (cs := #[.string (⟨#[]⟩ : ByteArray), .string (⟨#[]⟩ : ByteArray)]) ?_ 0 _ rfl; (with_reducible repeat (first | refine blk_drewN ?_ _ | refine blk_drew ?_ | refine blk_alloc ?_ _)); exact BK183.out)) (below_size (by repeat (first | (with_reducible first | exact HB.out | apply below_alloc | apply pw_below_drewN | apply below_drew1 | refine below_set ?_ GE183.out) | exact HB.out)))); have n3_ := Aside0.mk (blk_below (g := gb183) (o := .cells #[.string ((rd_T36 t179 x36_2).f0), .string ((rd_T36 t179 x36_2).f1)] 36 (0, 0)) (by (with_reducible repeat (first | refine blk_drewN ?_ _ | refine blk_drew ?_ | refine blk_alloc ?_ _)); refine blk_put (cs := #[.string ((rd_T36 t179 x36_2).f0), .string (⟨#[]⟩ : ByteArray)]) ?_ 1 _ rfl; (with_reducible repeat (first | refine blk_drewN ?_ _ | refine blk_drew ?_ | refine blk_alloc ?_ _)); refine blk_put (cs := #[.string (⟨#[]⟩ : ByteArray), .string (⟨#[]⟩ : ByteArray)]) ?_ 0 _ rfl; (with_reducible repeat (first | refine blk_drewN ?_ _ | refine blk_drew ?_ | refine blk_alloc ?_ _)); exact BK183.out) hb); have n4_ := Aside0.mk (below_step (by repeat (first | (with_reducible first | exact HB.out | apply below_alloc | apply pw_below_drewN | apply below_drew1 | refine below_set ?_ GE183.out) | exact HB.out)) hb); clear HO_5; clear HO_34; clear BK183; clear HB; have HO_5 := n0_; have HO_34 := n1_; have HO186 := n2_; have BK183 := n3_; have HB := n4_; clear n0_ n1_ n2_ n3_ n4_; (try clear hb); (try clear hb2); (try clear hk); (try clear hi); (try clear ho0)))
                    go_roundg k2
                    case measure => have := HJ4.out; have := HK2.out; omega
                    case rel => exact ⟨(t184), (wrap64 (x36_2 + 1)), (by first | rfl | (simp; done) | (simp [*]; done)), H', ⟨by have := HJ4.out; have := HK2.out; omega⟩, ⟨by (with_reducible repeat (first | apply Kd.R_alloc | apply Kd.R_drewN | apply Kd.R_drew)); exact Kd.R_mono HO186.out (fun _ hk => hk.1.2)⟩, ⟨by (with_reducible repeat (first | apply Kd.R_alloc | apply Kd.R_drewN | apply Kd.R_drew)); exact Kd.R_mono HO_34.out (fun _ hk => hk.2)⟩, ⟨by repeat (first | (with_reducible first | exact HB.out | apply below_alloc | apply pw_below_drewN | apply below_drew1 | refine below_set ?_ GE183.out) | exact HB.out)⟩⟩
                  · rw [if_neg c24] at H
                    exact absurd H (by simp)
                · rw [if_neg c23] at H
                  exact absurd H (by simp)
              · rw [if_neg c22] at H
                have c22b0 : decide (x36_2 < (t179.length : Int)) = false := decide_eq_false c22
                clear c22
                replace H := Option.bind_eq_some_iff.mp H
                obtain ⟨t187, A300, H⟩ := H
                replace H : (pantrylaw03_FieldSets.l1 k2 l1 x5_2 t187 l1 (l1.length : Int) 0) = some r := H
                have A30 := Aside0.mk A300
                clear A300
                have H' := Aside0.mk H
                clear H
                go_wp2_with (first | ((with_reducible refine gate_callee (f := 18) rfl ?_); refine goesL_ (some 46) rfl rfl Tryd.func18 (by kernel_rfl) rfl #[.slice A0 l0.length c0, .slice A1 l1.length c1] rfl (by (try simp only [List.map_toArray, List.map_cons, List.map_nil]); first | done | rfl | (simp only [List.length_drop, List.length_take]; rfl)) ?_; (with_reducible refine (field_List_With.calls _ _ l0 _ _ l1 t187 _ ?side1 ?side2 ?side3 ?side4 A30.out).mono ?_); (case side1 => repeat (first | exact (Kd.C_below HR0.out HB.out) | (with_reducible refine Kd.C_alloc ?_ _) | (with_reducible refine Kd.C_drewN ?_ _) | (with_reducible refine Kd.C_drew ?_))); (case side2 => exact HC0.out); (case side3 => repeat (first | exact (Kd.C_below HR1.out HB.out) | (with_reducible refine Kd.C_alloc ?_ _) | (with_reducible refine Kd.C_drewN ?_ _) | (with_reducible refine Kd.C_drew ?_))); (case side4 => exact HC1.out); rintro e w31 ⟨v188, rfl, ho0, hb⟩; refine ⟨_, rfl, ?_⟩; have n0_ := Aside0.mk (Kd.R_below (by (with_reducible repeat (first | apply Kd.R_alloc | apply Kd.R_drewN | apply Kd.R_drew)); exact HO_5.out) hb); have n1_ := Aside0.mk (Kd.R_below (by (with_reducible repeat (first | apply Kd.R_alloc | apply Kd.R_drewN | apply Kd.R_drew)); exact HO_34.out) hb); have n2_ := Aside0.mk (Kd.R_lower ho0 (below_size (by repeat (first | (with_reducible first | exact HB.out | apply below_alloc | apply pw_below_drewN | apply below_drew1) | exact HB.out)))); have n3_ := Aside0.mk (below_step (by repeat (first | (with_reducible first | exact HB.out | apply below_alloc | apply pw_below_drewN | apply below_drew1) | exact HB.out)) hb); clear HO_5; clear HO_34; clear HB; have HO_5 := n0_; have HO_34 := n1_; have HO189 := n2_; have HB := n3_; clear n0_ n1_ n2_ n3_; (try clear hb); (try clear hb2); (try clear hk); (try clear hi); (try clear ho0)))
                go_loopg [49] k2 (fun kq v49 w' => ∃ (x49_3 : Int), v49 = .int .i64 x49_3 ∧ Aside0 (pantrylaw03_FieldSets.l1 kq l1 x5_2 t187 l1 (l1.length : Int) x49_3 = some r) ∧ Aside0 (kq ≤ k2) ∧ Aside0 (Kd.R k36 36 w' w.heap.size (fun _ => True) u5 x5_2) ∧ Aside0 (Kd.R k39 39 w' w.heap.size (fun _ => True) v188 t187) ∧ Aside0 (Below w.heap.size w w'))
                case atStart => exact ⟨(0), (by first | rfl | (simp; done) | (simp [*]; done)), H', ⟨Nat.le_refl _⟩, ⟨by (with_reducible repeat (first | apply Kd.R_alloc | apply Kd.R_drewN | apply Kd.R_drew)); exact Kd.R_mono HO_5.out (fun _ hk => trivial)⟩, ⟨by (with_reducible repeat (first | apply Kd.R_alloc | apply Kd.R_drewN | apply Kd.R_drew)); exact HO189.out⟩, ⟨by repeat (first | (with_reducible first | exact HB.out | apply below_alloc | apply pw_below_drewN | apply below_drew1) | exact HB.out)⟩⟩
                case round =>
                  clear H'
                  try clear c1
                  try clear p1
                  try clear q1
                  try clear hx1
                  try clear c2
                  try clear p2
                  try clear c4
                  try clear p6
                  try clear c8
                  try clear c10
                  try clear c11
                  try clear c12
                  try clear c16
                  try clear c17
                  try clear c18
                  try clear p18
                  try clear q18
                  try clear hx18
                  try clear c22
                  try clear c22b0
                  try clear c23
                  try clear c23b0
                  try clear c24
                  try clear c24b0
                  try clear hcz27_0
                  try clear hcz27_1
                  try clear hfz27_0
                  try clear hfz27_1
                  try clear hx182_0
                  try clear hx182_1
                  try clear p182
                  try clear p2
                  try clear q182
                  obtain ⟨x49_3, rfl, HA, HK3, HO_5, HO_8, HB⟩ := hrel
                  cases gk with
                  | zero => exact absurd HA.out (by simp [pantrylaw03_FieldSets.l1])
                  | succ k3 =>
                    have H := HA.out
                    clear HA
                    simp only [pantrylaw03_FieldSets.l1] at H
                    by_cases c32 : x49_3 < (l1.length : Int)
                    · rw [if_pos c32] at H
                      have c32b0 : decide (x49_3 < (l1.length : Int)) = true := decide_eq_true c32
                      clear c32
                      by_cases c33 : 0 ≤ x49_3
                      · rw [if_pos c33] at H
                        have c33b0 : decide (0 ≤ x49_3) = true := decide_eq_true c33
                        clear c33
                        by_cases c34 : x49_3 < (l1.length : Int)
                        · rw [if_pos c34] at H
                          have c34b0 : decide (x49_3 < (l1.length : Int)) = true := decide_eq_true c34
                          clear c34
                          obtain ⟨ji35, hji35⟩ : ∃ j_ : Int, (wrap64 (x49_3 + 1)) = j_ := ⟨_, rfl⟩
                          replace H : (if 0 ≤ (ji35) then (if (ji35) ≤ (l1.length : Int) then ((some (l1.drop ((ji35) : Int).toNat : List (S39))).bind fun y196 => (pantrylaw03_FieldSets.l2 k3 l1 x5_2 t187 true l1 (l1.length : Int) x49_3 y196 (y196.length : Int) 0 ((rd_T39 l1 x49_3).f0) ((rd_T39 l1 x49_3).f1))) else (none)) else (none)) = some r := by first | (rw [hji35] at H; exact H) | (simp only [hji35] at H ⊢; exact H)
                          have hji35w : (IntKind.i64.wrap (x49_3 + 1)) = ji35 := (i64_w _).trans hji35
                          by_cases c36 : 0 ≤ (ji35)
                          · rw [if_pos c36] at H
                            have c36b0 := eq_true c36
                            have c36b1 : decide (0 ≤ (ji35)) = true := decide_eq_true c36
                            clear c36
                            by_cases c37 : (ji35) ≤ (l1.length : Int)
                            · rw [if_pos c37] at H
                              have c37b0 := eq_true c37
                              have c37b1 : decide ((ji35) ≤ (l1.length : Int)) = true := decide_eq_true c37
                              clear c37
                              obtain ⟨y196, hy196⟩ : ∃ y_ : List (S39), y_ = (l1.drop ((ji35) : Int).toNat) := ⟨_, rfl⟩
                              replace H : (pantrylaw03_FieldSets.l2 k3 l1 x5_2 t187 true l1 (l1.length : Int) x49_3 y196 (y196.length : Int) 0 ((rd_T39 l1 x49_3).f0) ((rd_T39 l1 x49_3).f1)) = some r := by first | (rw [hy196]; with_reducible exact H) | (have H2_ := (Option.bind_some _ _).symm.trans H; rw [hy196]; with_reducible exact H2_) | (have H2_ := (Option.bind_some _ _).symm.trans H; with_reducible exact H2_) | with_reducible exact H | (rw [hy196]; exact H) | exact H
                              have Ny196 := Aside0.mk hy196
                              clear hy196
                              have H' := Aside0.mk H
                              clear H
                              have p194 : 0 ≤ (x49_3 : Int) := of_decide_eq_true (by first | (with_reducible assumption) | assumption)
                              have q194 : x49_3 < (l1.length : Int) := of_decide_eq_true (by first | (with_reducible assumption) | assumption)
                              obtain ⟨ad194, e194, hx194_0, hx194_1⟩ := at_T39 HR1.out x49_3 p194 q194
                              cases e194
                              replace hx194_0 := (HB.out.cell (World.block_lt_of_cell? w _ hx194_0)).trans hx194_0
                              replace hx194_1 := (HB.out.cell (World.block_lt_of_cell? w _ hx194_1)).trans hx194_1
                              replace p194 := eq_true p194
                              replace q194 := eq_true q194
                              go_wp2_with (first | ((with_reducible refine gate_dst (N := 10) rfl ?_); (try (refine gate_guard (by rfl) ?_; dsimp only)); refine box_event ?hg (N := 10) ?hd (cs := #[.string (⟨#[]⟩ : ByteArray), .string (⟨#[]⟩ : ByteArray)]) (t := 39) ?hr ?_; (case hd => rfl); (case hg => rfl); (case hr => first | (go_simp; done) | (go_simp; rfl)); intro gb195 hg w38 hbox hb; have n0_ := Aside0.mk (Kd.R_below (by (with_reducible repeat (first | apply Kd.R_alloc | apply Kd.R_drewN | apply Kd.R_drew)); exact HO_5.out) hb); have n1_ := Aside0.mk (Kd.R_below (Kd.R_elderB (by (with_reducible repeat (first | apply Kd.R_alloc | apply Kd.R_drewN | apply Kd.R_drew)); exact HO_8.out) gb195 (Nat.le_of_eq hg.symm)) hb); have n2_ := Aside0.mk (below_step (by repeat (first | (with_reducible first | exact HB.out | apply below_alloc | apply pw_below_drewN | apply below_drew1) | exact HB.out)) hb); have n3_ := Aside0.mk (hbox); have n4_ := Aside0.mk ((by rw [hg]; exact (below_size (by repeat (first | (with_reducible first | exact HB.out | apply below_alloc | apply pw_below_drewN | apply below_drew1) | exact HB.out))) : w.heap.size ≤ gb195)); have n5_ := Aside0.mk ((by rw [hg]; exact (below_size (by repeat (first | (with_reducible first | exact HB.out | apply below_alloc | apply pw_below_drewN | apply below_drew1) | exact HB.out))) : w.heap.size ≤ gb195)); clear HO_5; clear HO_8; clear HB; have HO_5 := n0_; have HO_8 := n1_; have HB := n2_; have BK195 := n3_; have GW195 := n4_; have GE195 := n5_; clear n0_ n1_ n2_ n3_ n4_ n5_; clear hb hbox hg; have hcz39_0 : w38.cell? ⟨gb195, 0, none⟩ = some (.string (⟨#[]⟩ : ByteArray)) := (blk_cell BK195.out 0).trans rfl; have hcz39_1 : w38.cell? ⟨gb195, 1, none⟩ = some (.string (⟨#[]⟩ : ByteArray)) := (blk_cell BK195.out 1).trans rfl; have hfz39_0 := blk_frozen BK195.out 0; have hfz39_1 := blk_frozen BK195.out 1) | ((with_reducible refine gate_store (t := 39) (p := 10) rfl ?_); refine store_event (t := 39) (p := 10) (v := ?vo_w40) (w1 := ((w38.setCell ⟨gb195, 0, none⟩ (.string ((rd_T39 l1 x49_3).f0))).setCell ⟨gb195, 1, none⟩ (.string ((rd_T39 l1 x49_3).f1)))) ?hg ?ho ?hn ?hr ?_; (case ho => rfl); (case hg => rfl); (case hn => rfl); (case hr => first | (go_simp; done) | (go_simp; rfl)); intro w40 hw; have n0_ : Aside0 (Kd.R k36 36 w40 w.heap.size (fun _ => True) u5 x5_2) := ⟨(by rw [hw]; exact (by (with_reducible repeat (first | apply Kd.R_alloc | apply Kd.R_drewN | apply Kd.R_drew)); exact Kd.R_mono (Kd.R_far (p := ⟨gb195, 1, none⟩) (Kd.R_far (p := ⟨gb195, 0, none⟩) (Kd.R_types HO_5.out BK195.out (by decide)) (fun _ hk => hk.2) (.string ((rd_T39 l1 x49_3).f0))) (fun _ hk => hk.2) (.string ((rd_T39 l1 x49_3).f1))) (fun _ hk => trivial)))⟩; have n1_ : Aside0 (Kd.R k39 39 w40 w.heap.size (fun k_ => k_ ≠ gb195) v188 t187) := ⟨(by rw [hw]; exact (by (with_reducible repeat (first | apply Kd.R_alloc | apply Kd.R_drewN | apply Kd.R_drew)); exact Kd.R_mono (Kd.R_far (p := ⟨gb195, 1, none⟩) (Kd.R_far (p := ⟨gb195, 0, none⟩) (Kd.R_mono HO_8.out (fun k_ hk => (⟨hk, hk.2⟩ : _ ∧ k_ ≠ gb195))) (fun _ hk => hk.2) (.string ((rd_T39 l1 x49_3).f0))) (fun _ hk => hk.2) (.string ((rd_T39 l1 x49_3).f1))) (fun _ hk => hk.1.2)))⟩; have n2_ : Aside0 (w40.heap[gb195]? = some (.cells #[.string ((rd_T39 l1 x49_3).f0), .string ((rd_T39 l1 x49_3).f1)] 39 (0, 0))) := ⟨(by rw [hw]; exact (by (with_reducible repeat (first | refine blk_drewN ?_ _ | refine blk_drew ?_ | refine blk_alloc ?_ _)); refine blk_put (cs := #[.string ((rd_T39 l1 x49_3).f0), .string (⟨#[]⟩ : ByteArray)]) ?_ 1 _ rfl; (with_reducible repeat (first | refine blk_drewN ?_ _ | refine blk_drew ?_ | refine blk_alloc ?_ _)); refine blk_put (cs := #[.string (⟨#[]⟩ : ByteArray), .string (⟨#[]⟩ : ByteArray)]) ?_ 0 _ rfl; (with_reducible repeat (first | refine blk_drewN ?_ _ | refine blk_drew ?_ | refine blk_alloc ?_ _)); exact BK195.out))⟩; have n3_ : Aside0 (Below w.heap.size w w40) := ⟨(by rw [hw]; exact (by repeat (first | (with_reducible first | exact HB.out | apply below_alloc | apply pw_below_drewN | apply below_drew1 | refine below_set ?_ GE195.out) | exact HB.out)))⟩; clear hw; clear HO_5; clear HO_8; clear BK195; clear HB; have HO_5 := n0_; have HO_8 := n1_; have BK195 := n2_; have HB := n3_; clear n0_ n1_ n2_ n3_; have q41 : ((ji35) : Int) ≤ ((l1.length : Int) : Int) := of_decide_eq_true (by first | (with_reducible assumption) | assumption); obtain ⟨i041, hi041, _, hsz41, _⟩ := info_parts info39; have hroom41 : l1.length ≤ c1 := HC1.out; have hC41 : Kd.C k39 _ (some ad194) l1.length l1 := HR1.out; have q041 : (0 : Int) ≤ ((ji35) : Int) := of_decide_eq_true (by first | (with_reducible assumption) | assumption); have hcut41 := cut_from (P := Tryd.prog) 23 39 .i64 Tryd.underlying23 hi041 2 hsz41 (some ad194) l1.length c1 (ji35) q041 q41; have hr41 := Kd.C_drop (m := ((ji35) : Int).toNat) (c := c1) hC41 (by omega) hroom41; obtain ⟨A41, hA41⟩ : ∃ Ax_, Ax_ = (if c1 = ((ji35) : Int).toNat then (some ad194) else ((some ad194) : Option Addr).map (·.add (((ji35) : Int).toNat * 2))) := ⟨_, rfl⟩; obtain ⟨c41, hc41⟩ : ∃ cx_, cx_ = c1 - ((ji35) : Int).toNat := ⟨_, rfl⟩; have hy41 : y196.length = l1.length - ((ji35) : Int).toNat := (by rw [Ny196.out, List.length_drop] <;> omega); rw [show (l1).drop ((ji35) : Int).toNat = y196 from Ny196.out.symm] at hr41; replace hr41 : Kd.C k39 _ A41 y196.length y196 := (by rw [hA41]; exact hr41); rw [← hy41, ← hA41, ← hc41] at hcut41; have HR199 := Aside0.mk hr41; have HC199 := Aside0.mk (show y196.length ≤ c41 from by rw [hy41, hc41]; exact Nat.sub_le_sub_right hroom41 _); clear hr41 hC41 hroom41 hi041 hsz41 hc41; have KY41 := Aside0.mk hy41; have KA41 := Aside0.mk hA41; clear hy41 hA41; replace q41 := eq_true q41))
                              go_loopg [11, 59] k3 (fun kq v11 v59 w' => ∃ (x11_4 : Bool) (x59_4 : Int), v11 = .bool x11_4 ∧ v59 = .int .i64 x59_4 ∧ Aside0 (pantrylaw03_FieldSets.l2 kq l1 x5_2 t187 x11_4 l1 (l1.length : Int) x49_3 y196 (y196.length : Int) x59_4 ((rd_T39 l1 x49_3).f0) ((rd_T39 l1 x49_3).f1) = some r) ∧ Aside0 (kq ≤ k3) ∧ Aside0 (Kd.R k36 36 w' w.heap.size (fun _ => True) u5 x5_2) ∧ Aside0 (Kd.R k39 39 w' w.heap.size (fun k_ => k_ ≠ gb195) v188 t187) ∧ Aside0 (w'.heap[gb195]? = some (.cells #[.string ((rd_T39 l1 x49_3).f0), .string ((rd_T39 l1 x49_3).f1)] 39 (0, 0))) ∧ Aside0 (Below w.heap.size w w'))
                              case atStart => exact ⟨(true), (0), (by first | rfl | (simp; done) | (simp [*]; done)), (by first | rfl | (simp; done) | (simp [*]; done)), H', ⟨Nat.le_refl _⟩, ⟨by (with_reducible repeat (first | apply Kd.R_alloc | apply Kd.R_drewN | apply Kd.R_drew)); exact HO_5.out⟩, ⟨by (with_reducible repeat (first | apply Kd.R_alloc | apply Kd.R_drewN | apply Kd.R_drew)); exact HO_8.out⟩, ⟨by (with_reducible repeat (first | refine blk_drewN ?_ _ | refine blk_drew ?_ | refine blk_alloc ?_ _)); exact BK195.out⟩, ⟨by repeat (first | (with_reducible first | exact HB.out | apply below_alloc | apply pw_below_drewN | apply below_drew1 | refine below_set ?_ GE195.out) | exact HB.out)⟩⟩
                              case round =>
                                clear H'
                                try clear c1
                                try clear p1
                                try clear q1
                                try clear hx1
                                try clear c2
                                try clear p2
                                try clear c3
                                try clear c4
                                try clear q4
                                try clear p6
                                try clear c8
                                try clear c10
                                try clear c11
                                try clear c12
                                try clear c16
                                try clear c17
                                try clear c18
                                try clear p18
                                try clear q18
                                try clear hx18
                                try clear p19
                                try clear q19
                                try clear hx19
                                try clear c22
                                try clear c22b0
                                try clear c23
                                try clear c23b0
                                try clear c24
                                try clear c24b0
                                try clear c32
                                try clear c32b0
                                try clear c33
                                try clear c33b0
                                try clear c34
                                try clear c34b0
                                try clear c36
                                try clear c36b0
                                try clear c36b1
                                try clear c37
                                try clear c37b0
                                try clear c37b1
                                try clear c41
                                try clear q41
                                try clear hcz27_0
                                try clear hcz27_1
                                try clear hcz39_0
                                try clear hcz39_1
                                try clear hfz27_0
                                try clear hfz27_1
                                try clear hfz39_0
                                try clear hfz39_1
                                try clear hx182_0
                                try clear hx182_1
                                try clear hx194_0
                                try clear hx194_1
                                try clear p1
                                try clear p18
                                try clear p182
                                try clear p194
                                try clear p2
                                try clear p6
                                try clear q041
                                try clear q1
                                try clear q18
                                try clear q182
                                try clear q194
                                try clear q41
                                obtain ⟨x11_4, x59_4, rfl, rfl, HA, HK4, HO_5, HO_8, BK195, HB⟩ := hrel
                                cases gk with
                                | zero => exact absurd HA.out (by simp [pantrylaw03_FieldSets.l2])
                                | succ k4 =>
                                  have H := HA.out
                                  clear HA
                                  simp only [pantrylaw03_FieldSets.l2] at H
                                  by_cases c42 : x59_4 < (y196.length : Int)
                                  · rw [if_pos c42] at H
                                    have c42b0 : decide (x59_4 < (y196.length : Int)) = true := decide_eq_true c42
                                    clear c42
                                    by_cases c43 : 0 ≤ x59_4
                                    · rw [if_pos c43] at H
                                      have c43b0 : decide (0 ≤ x59_4) = true := decide_eq_true c43
                                      clear c43
                                      by_cases c44 : x59_4 < (y196.length : Int)
                                      · rw [if_pos c44] at H
                                        have c44b0 : decide (x59_4 < (y196.length : Int)) = true := decide_eq_true c44
                                        clear c44
                                        by_cases c45 : x11_4 = true
                                        · subst c45
                                          have H1 : ((pantryref01_Lower.f k4 ((rd_T39 l1 x49_3).f0)).bind fun t202 => ((pantryref01_Lower.f k4 ((rd_T39 y196 x59_4).f0)).bind fun t203 => (pantrylaw03_FieldSets.l2 k4 l1 x5_2 t187 (t202.toList != t203.toList) l1 (l1.length : Int) x49_3 y196 (y196.length : Int) (wrap64 (x59_4 + 1)) ((rd_T39 l1 x49_3).f0) ((rd_T39 l1 x49_3).f1)))) = some r := by rw [if_pos rfl] at H; exact H
                                          clear H
                                          have H := H1
                                          clear H1
                                          replace H := Option.bind_eq_some_iff.mp H
                                          obtain ⟨t202, A460, H⟩ := H
                                          replace H : ((pantryref01_Lower.f k4 ((rd_T39 y196 x59_4).f0)).bind fun t203 => (pantrylaw03_FieldSets.l2 k4 l1 x5_2 t187 (t202.toList != t203.toList) l1 (l1.length : Int) x49_3 y196 (y196.length : Int) (wrap64 (x59_4 + 1)) ((rd_T39 l1 x49_3).f0) ((rd_T39 l1 x49_3).f1))) = some r := H
                                          have A46 := Aside0.mk A460
                                          clear A460
                                          replace H := Option.bind_eq_some_iff.mp H
                                          obtain ⟨t203, A470, H⟩ := H
                                          replace H : (pantrylaw03_FieldSets.l2 k4 l1 x5_2 t187 (t202.toList != t203.toList) l1 (l1.length : Int) x49_3 y196 (y196.length : Int) (wrap64 (x59_4 + 1)) ((rd_T39 l1 x49_3).f0) ((rd_T39 l1 x49_3).f1)) = some r := H
                                          have A47 := Aside0.mk A470
                                          clear A470
                                          have H' := Aside0.mk H
                                          clear H
                                          have p200 : 0 ≤ (x59_4 : Int) := of_decide_eq_true (by first | (with_reducible assumption) | assumption)
                                          have q200 : x59_4 < (y196.length : Int) := of_decide_eq_true (by first | (with_reducible assumption) | assumption)
                                          obtain ⟨ad200, e200, hx200_0, hx200_1⟩ := at_T39 HR199.out x59_4 p200 q200
                                          cases e200
                                          replace hx200_0 := (HB.out.cell (World.block_lt_of_cell? w _ hx200_0)).trans hx200_0
                                          replace hx200_1 := (HB.out.cell (World.block_lt_of_cell? w _ hx200_1)).trans hx200_1
                                          replace p200 := eq_true p200
                                          replace q200 := eq_true q200
                                          try go_wp2_with (first | ((with_reducible refine gate_dst (N := 13) rfl ?_); (try (refine gate_guard (by rfl) ?_; dsimp only)); refine box_event ?hg (N := 13) ?hd (cs := #[.string (⟨#[]⟩ : ByteArray), .string (⟨#[]⟩ : ByteArray)]) (t := 39) ?hr ?_; (case hd => rfl); (case hg => rfl); (case hr => first | (go_simp; done) | (go_simp; rfl)); intro gb201 hg w48 hbox hb; have n0_ := Aside0.mk (Kd.R_below (by (with_reducible repeat (first | apply Kd.R_alloc | apply Kd.R_drewN | apply Kd.R_drew)); exact HO_5.out) hb); have n1_ := Aside0.mk (Kd.R_below (Kd.R_elderB (by (with_reducible repeat (first | apply Kd.R_alloc | apply Kd.R_drewN | apply Kd.R_drew)); exact HO_8.out) gb201 (Nat.le_of_eq hg.symm)) hb); have n2_ := Aside0.mk (blk_below (g := gb195) (o := .cells #[.string ((rd_T39 l1 x49_3).f0), .string ((rd_T39 l1 x49_3).f1)] 39 (0, 0)) (by (with_reducible repeat (first | refine blk_drewN ?_ _ | refine blk_drew ?_ | refine blk_alloc ?_ _)); exact BK195.out) hb); have n3_ := Aside0.mk (below_step (by repeat (first | (with_reducible first | exact HB.out | apply below_alloc | apply pw_below_drewN | apply below_drew1 | refine below_set ?_ GE195.out) | exact HB.out)) hb); have n4_ := Aside0.mk (hbox); have n5_ := Aside0.mk ((by rw [hg]; exact (below_size (by repeat (first | (with_reducible first | exact HB.out | apply below_alloc | apply pw_below_drewN | apply below_drew1 | refine below_set ?_ GE195.out) | exact HB.out))) : w.heap.size ≤ gb201)); have n6_ := Aside0.mk ((by rw [hg]; exact (below_size (by repeat (first | (with_reducible first | exact HB.out | apply below_alloc | apply pw_below_drewN | apply below_drew1 | refine below_set ?_ GE195.out) | exact HB.out))) : w.heap.size ≤ gb201)); have n7_ := Aside0.mk ((by rw [hg]; exact Nat.ne_of_lt (blk_lt (g := gb195) (o := .cells #[.string ((rd_T39 l1 x49_3).f0), .string ((rd_T39 l1 x49_3).f1)] 39 (0, 0)) (by (with_reducible repeat (first | refine blk_drewN ?_ _ | refine blk_drew ?_ | refine blk_alloc ?_ _)); exact BK195.out)) : gb195 ≠ gb201)); have n8_ := Aside0.mk ((by rw [hg]; exact Nat.ne_of_gt (blk_lt (g := gb195) (o := .cells #[.string ((rd_T39 l1 x49_3).f0), .string ((rd_T39 l1 x49_3).f1)] 39 (0, 0)) (by (with_reducible repeat (first | refine blk_drewN ?_ _ | refine blk_drew ?_ | refine blk_alloc ?_ _)); exact BK195.out)) : gb201 ≠ gb195)); clear HO_5; clear HO_8; clear BK195; clear HB; have HO_5 := n0_; have HO_8 := n1_; have BK195 := n2_; have HB := n3_; have BK201 := n4_; have GW201 := n5_; have GE201 := n6_; have NB195_201 := n7_; have NB201_195 := n8_; clear n0_ n1_ n2_ n3_ n4_ n5_ n6_ n7_ n8_; clear hb hbox hg; have hnb49 := NB201_195.out; have hnc49 := NB195_201.out; have hcz50_0 : w48.cell? ⟨gb201, 0, none⟩ = some (.string (⟨#[]⟩ : ByteArray)) := (blk_cell BK201.out 0).trans rfl; have hcz50_1 : w48.cell? ⟨gb201, 1, none⟩ = some (.string (⟨#[]⟩ : ByteArray)) := (blk_cell BK201.out 1).trans rfl; have hfz50_0 := blk_frozen BK201.out 0; have hfz50_1 := blk_frozen BK201.out 1))
                                          have n0_ : Aside0 (Kd.R k36 36 ((w48.setCell ⟨gb201, 0, none⟩ (.string ((rd_T39 y196 x59_4).f0))).setCell ⟨gb201, 1, none⟩ (.string ((rd_T39 y196 x59_4).f1))) w.heap.size (fun _ => True) u5 x5_2) := ⟨by (with_reducible repeat (first | apply Kd.R_alloc | apply Kd.R_drewN | apply Kd.R_drew)); exact Kd.R_mono (Kd.R_far (p := ⟨gb201, 1, none⟩) (Kd.R_far (p := ⟨gb201, 0, none⟩) (Kd.R_types HO_5.out BK201.out (by decide)) (fun _ hk => hk.2) (.string ((rd_T39 y196 x59_4).f0))) (fun _ hk => hk.2) (.string ((rd_T39 y196 x59_4).f1))) (fun _ hk => trivial)⟩
                                          have n1_ : Aside0 (Kd.R k39 39 ((w48.setCell ⟨gb201, 0, none⟩ (.string ((rd_T39 y196 x59_4).f0))).setCell ⟨gb201, 1, none⟩ (.string ((rd_T39 y196 x59_4).f1))) w.heap.size (fun k_ => k_ ≠ gb195 ∧ k_ ≠ gb201) v188 t187) := ⟨by (with_reducible repeat (first | apply Kd.R_alloc | apply Kd.R_drewN | apply Kd.R_drew)); exact Kd.R_mono (Kd.R_far (p := ⟨gb201, 1, none⟩) (Kd.R_far (p := ⟨gb201, 0, none⟩) (Kd.R_mono HO_8.out (fun k_ hk => (⟨hk, hk.2⟩ : _ ∧ k_ ≠ gb201))) (fun _ hk => hk.2) (.string ((rd_T39 y196 x59_4).f0))) (fun _ hk => hk.2) (.string ((rd_T39 y196 x59_4).f1))) (fun _ hk => ⟨hk.1.1, hk.1.2⟩)⟩
                                          have n2_ : Aside0 (((w48.setCell ⟨gb201, 0, none⟩ (.string ((rd_T39 y196 x59_4).f0))).setCell ⟨gb201, 1, none⟩ (.string ((rd_T39 y196 x59_4).f1))).heap[gb195]? = some (.cells #[.string ((rd_T39 l1 x49_3).f0), .string ((rd_T39 l1 x49_3).f1)] 39 (0, 0))) := ⟨by (with_reducible repeat (first | refine blk_drewN ?_ _ | refine blk_drew ?_ | refine blk_alloc ?_ _)); refine blk_far ?_ NB195_201.out _; (with_reducible repeat (first | refine blk_drewN ?_ _ | refine blk_drew ?_ | refine blk_alloc ?_ _)); refine blk_far ?_ NB195_201.out _; (with_reducible repeat (first | refine blk_drewN ?_ _ | refine blk_drew ?_ | refine blk_alloc ?_ _)); exact BK195.out⟩
                                          have n3_ : Aside0 (((w48.setCell ⟨gb201, 0, none⟩ (.string ((rd_T39 y196 x59_4).f0))).setCell ⟨gb201, 1, none⟩ (.string ((rd_T39 y196 x59_4).f1))).heap[gb201]? = some (.cells #[.string ((rd_T39 y196 x59_4).f0), .string ((rd_T39 y196 x59_4).f1)] 39 (0, 0))) := ⟨by (with_reducible repeat (first | refine blk_drewN ?_ _ | refine blk_drew ?_ | refine blk_alloc ?_ _)); refine blk_put (cs := #[.string ((rd_T39 y196 x59_4).f0), .string (⟨#[]⟩ : ByteArray)]) ?_ 1 _ rfl; (with_reducible repeat (first | refine blk_drewN ?_ _ | refine blk_drew ?_ | refine blk_alloc ?_ _)); refine blk_put (cs := #[.string (⟨#[]⟩ : ByteArray), .string (⟨#[]⟩ : ByteArray)]) ?_ 0 _ rfl; (with_reducible repeat (first | refine blk_drewN ?_ _ | refine blk_drew ?_ | refine blk_alloc ?_ _)); exact BK201.out⟩
                                          have n4_ : Aside0 (Below w.heap.size w ((w48.setCell ⟨gb201, 0, none⟩ (.string ((rd_T39 y196 x59_4).f0))).setCell ⟨gb201, 1, none⟩ (.string ((rd_T39 y196 x59_4).f1)))) := ⟨by repeat (first | (with_reducible first | exact HB.out | apply below_alloc | apply pw_below_drewN | apply below_drew1 | refine below_set ?_ GE195.out | refine below_set ?_ GE201.out) | exact HB.out)⟩
                                          (try clear HO_5)
                                          (try clear HO_8)
                                          (try clear BK195)
                                          (try clear BK201)
                                          (try clear HB)
                                          generalize ((w48.setCell ⟨gb201, 0, none⟩ (.string ((rd_T39 y196 x59_4).f0))).setCell ⟨gb201, 1, none⟩ (.string ((rd_T39 y196 x59_4).f1))) = w51 at n0_ n1_ n2_ n3_ n4_ ⊢
                                          have HO_5 := n0_
                                          have HO_8 := n1_
                                          have BK195 := n2_
                                          have BK201 := n3_
                                          have HB := n4_
                                          clear n0_ n1_ n2_ n3_ n4_
                                          have n0_ := Aside0.mk (Kd.R_drew HO_5.out)
                                          have n1_ := Aside0.mk (Kd.R_drew HO_8.out)
                                          have n2_ := Aside0.mk (blk_drew BK195.out)
                                          have n3_ := Aside0.mk (blk_drew BK201.out)
                                          have n4_ := Aside0.mk (below_drew1 HB.out)
                                          clear HO_5
                                          clear HO_8
                                          clear BK195
                                          clear BK201
                                          clear HB
                                          have HO_5 := n0_
                                          have HO_8 := n1_
                                          have BK195 := n2_
                                          have BK201 := n3_
                                          have HB := n4_
                                          clear n0_ n1_ n2_ n3_ n4_
                                          refine start_ (n := 11) (S := fun w' => w'.cell? ⟨gb195, 0, none⟩ = some (.string ((rd_T39 l1 x49_3).f0)) ∧ w'.cell? ⟨gb195, 1, none⟩ = some (.string ((rd_T39 l1 x49_3).f1)) ∧ w'.cell? ⟨gb201, 0, none⟩ = some (.string ((rd_T39 y196 x59_4).f0)) ∧ w'.cell? ⟨gb201, 1, none⟩ = some (.string ((rd_T39 y196 x59_4).f1))) (ds := []) #[false, false, false, false, false, false, false, false, false, false, false] (by kernel_rfl) rfl rfl ⟨(blk_cell BK195.out 0).trans rfl, (blk_cell BK195.out 1).trans rfl, (blk_cell BK201.out 0).trans rfl, (blk_cell BK201.out 1).trans rfl⟩ (fun hHeld => ?_); refine with_tabW pantrylaw03_FieldSets.tab19 pantrylaw03_FieldSets.bits19 (fun HT_ HW_ => ?_)
                                          generalize w51.drew = w52 at HO_5 HO_8 BK195 BK201 HB hHeld ⊢
                                          refine pure_ (i := 0) (N := some 63) (v := ?_) (a' := ?_) #[true, false, false, false, false, false, false, false, false, false, false] rfl rfl (any_of HT_.out (by kernel_rfl)) (fun _ _ _ h => h) (Or.inl ⟨by rfl, ?_⟩) ?_ ?_
                                          rotate_left
                                          · intro w'
                                            go_simp
                                            with_reducible rfl
                                          rotate_left
                                          · simp only [Act.put, List.setIfInBounds_toArray, List.set_cons_zero, List.set_cons_succ, i64_w, i32_w]
                                            rfl
                                          refine pure_ (i := 1) (N := some 64) (v := ?_) (a' := ?_) #[true, true, false, false, false, false, false, false, false, false, false] rfl rfl (any_of HT_.out (by kernel_rfl)) (fun _ _ _ h => h) (Or.inl ⟨by rfl, ?_⟩) ?_ ?_
                                          rotate_left
                                          · intro w'
                                            go_simp
                                            with_reducible rfl
                                          rotate_left
                                          · simp only [Act.put, List.setIfInBounds_toArray, List.set_cons_zero, List.set_cons_succ, i64_w, i32_w]
                                            rfl
                                          refine pure_ (i := 2) (N := some 65) (v := ?_) (a' := ?_) #[true, true, true, false, false, false, false, false, false, false, false] rfl rfl (any_of HT_.out (by kernel_rfl)) (fun _ _ _ h => h) (Or.inl ⟨by rfl, ?_⟩) ?_ ?_
                                          rotate_left
                                          · intro w'
                                            go_simp
                                            with_reducible rfl
                                          rotate_left
                                          · simp only [Act.put, List.setIfInBounds_toArray, List.set_cons_zero, List.set_cons_succ, i64_w, i32_w]
                                            rfl
                                          refine pure_ (i := 5) (N := some 68) (v := ?_) (a' := ?_) #[true, true, true, false, false, true, false, false, false, false, false] rfl rfl (any_of HT_.out (by kernel_rfl)) (fun _ _ _ h => h) (Or.inl ⟨by rfl, ?_⟩) ?_ ?_
                                          rotate_left
                                          · intro w'
                                            go_simp
                                            with_reducible rfl
                                          rotate_left
                                          · simp only [Act.put, List.setIfInBounds_toArray, List.set_cons_zero, List.set_cons_succ, i64_w, i32_w]
                                            rfl
                                          refine take_ (i := 3) (N := some 66) (v := ?_) (a' := ?_) #[true, true, true, true, false, true, false, false, false, false, false] rfl rfl (take_ofW HT_.out HW_.out (by kernel_rfl)) (fun _ _ _ h => h) (Or.inl ⟨by rfl, ?_⟩) hHeld ?_ ?_
                                          rotate_left
                                          · rintro w' ⟨s0, s1, s2, s3⟩
                                            go_simp
                                            with_reducible rfl
                                          rotate_left
                                          · simp only [Act.put, List.setIfInBounds_toArray, List.set_cons_zero, List.set_cons_succ, i64_w, i32_w]
                                            rfl
                                          refine take_ (i := 6) (N := some 69) (v := ?_) (a' := ?_) #[true, true, true, true, false, true, true, false, false, false, false] rfl rfl (take_ofW HT_.out HW_.out (by kernel_rfl)) (fun _ _ _ h => h) (Or.inl ⟨by rfl, ?_⟩) hHeld ?_ ?_
                                          rotate_left
                                          · rintro w' ⟨s0, s1, s2, s3⟩
                                            go_simp
                                            with_reducible rfl
                                          rotate_left
                                          · simp only [Act.put, List.setIfInBounds_toArray, List.set_cons_zero, List.set_cons_succ, i64_w, i32_w]
                                            rfl
                                          refine one_ (i := 4) (N := some 67) #[true, true, true, true, true, true, true, false, false, false, false] rfl rfl (one_of HT_.out (by kernel_rfl)) (by decide) (fun K hK => ?_)
                                          refine goes_ Tryd.func19 (by kernel_rfl) rfl #[.string ((rd_T39 l1 x49_3).f0)] (by rfl) rfl rfl (by (try simp only [List.map_toArray, List.map_cons, List.map_nil]); first | done | rfl | (simp only [List.length_drop, List.length_take]; rfl)) ?_
                                          with_reducible refine (pantryref01_Lower.calls k4 ((rd_T39 l1 x49_3).f0) t202 _ A46.out).mono ?_
                                          rintro e w53 ⟨rfl, hb⟩
                                          refine ⟨_, rfl, ?_⟩
                                          have n0_ := Aside0.mk (Kd.R_below (by (with_reducible repeat (first | apply Kd.R_alloc | apply Kd.R_drewN | apply Kd.R_drew)); exact HO_5.out) hb)
                                          have n1_ := Aside0.mk (Kd.R_below (by (with_reducible repeat (first | apply Kd.R_alloc | apply Kd.R_drewN | apply Kd.R_drew)); exact HO_8.out) hb)
                                          have n2_ := Aside0.mk (blk_below (g := gb195) (o := .cells #[.string ((rd_T39 l1 x49_3).f0), .string ((rd_T39 l1 x49_3).f1)] 39 (0, 0)) (by (with_reducible repeat (first | refine blk_drewN ?_ _ | refine blk_drew ?_ | refine blk_alloc ?_ _)); exact BK195.out) hb)
                                          have n3_ := Aside0.mk (blk_below (g := gb201) (o := .cells #[.string ((rd_T39 y196 x59_4).f0), .string ((rd_T39 y196 x59_4).f1)] 39 (0, 0)) (by (with_reducible repeat (first | refine blk_drewN ?_ _ | refine blk_drew ?_ | refine blk_alloc ?_ _)); exact BK201.out) hb)
                                          have n4_ := Aside0.mk (below_step (by repeat (first | (with_reducible first | exact HB.out | apply below_alloc | apply pw_below_drewN | apply below_drew1 | refine below_set ?_ GE195.out | refine below_set ?_ GE201.out) | exact HB.out)) hb)
                                          clear HO_5
                                          clear HO_8
                                          clear BK195
                                          clear BK201
                                          clear HB
                                          have HO_5 := n0_
                                          have HO_8 := n1_
                                          have BK195 := n2_
                                          have BK201 := n3_
                                          have HB := n4_
                                          clear n0_ n1_ n2_ n3_ n4_
                                          (try clear hb)
                                          (try clear hb2)
                                          (try clear hk)
                                          (try clear hi)
                                          refine hK.out _ _ ⟨(blk_cell BK195.out 0).trans rfl, (blk_cell BK195.out 1).trans rfl, (blk_cell BK201.out 0).trans rfl, (blk_cell BK201.out 1).trans rfl⟩ (fun hHeld => ?_)
                                          clear hK K
                                          refine norm_ (a' := ?_) ?_ ?_
                                          rotate_left
                                          · show Act.put _ (some 67) _ = _
                                            simp only [Act.put, List.setIfInBounds_toArray, List.set_cons_zero, List.set_cons_succ, i64_w, i32_w]
                                            rfl
                                          refine one_ (i := 7) (N := some 70) #[true, true, true, true, true, true, true, true, false, false, false] rfl rfl (one_of HT_.out (by kernel_rfl)) (by decide) (fun K hK => ?_)
                                          refine goes_ Tryd.func19 (by kernel_rfl) rfl #[.string ((rd_T39 y196 x59_4).f0)] (by rfl) rfl rfl (by (try simp only [List.map_toArray, List.map_cons, List.map_nil]); first | done | rfl | (simp only [List.length_drop, List.length_take]; rfl)) ?_
                                          with_reducible refine (pantryref01_Lower.calls k4 ((rd_T39 y196 x59_4).f0) t203 _ A47.out).mono ?_
                                          rintro e w54 ⟨rfl, hb⟩
                                          refine ⟨_, rfl, ?_⟩
                                          have n0_ := Aside0.mk (Kd.R_below (by (with_reducible repeat (first | apply Kd.R_alloc | apply Kd.R_drewN | apply Kd.R_drew)); exact HO_5.out) hb)
                                          have n1_ := Aside0.mk (Kd.R_below (by (with_reducible repeat (first | apply Kd.R_alloc | apply Kd.R_drewN | apply Kd.R_drew)); exact HO_8.out) hb)
                                          have n2_ := Aside0.mk (blk_below (g := gb195) (o := .cells #[.string ((rd_T39 l1 x49_3).f0), .string ((rd_T39 l1 x49_3).f1)] 39 (0, 0)) (by (with_reducible repeat (first | refine blk_drewN ?_ _ | refine blk_drew ?_ | refine blk_alloc ?_ _)); exact BK195.out) hb)
                                          have n3_ := Aside0.mk (blk_below (g := gb201) (o := .cells #[.string ((rd_T39 y196 x59_4).f0), .string ((rd_T39 y196 x59_4).f1)] 39 (0, 0)) (by (with_reducible repeat (first | refine blk_drewN ?_ _ | refine blk_drew ?_ | refine blk_alloc ?_ _)); exact BK201.out) hb)
                                          have n4_ := Aside0.mk (below_step (by repeat (first | (with_reducible first | exact HB.out | apply below_alloc | apply pw_below_drewN | apply below_drew1 | refine below_set ?_ GE195.out | refine below_set ?_ GE201.out) | exact HB.out)) hb)
                                          clear HO_5
                                          clear HO_8
                                          clear BK195
                                          clear BK201
                                          clear HB
                                          have HO_5 := n0_
                                          have HO_8 := n1_
                                          have BK195 := n2_
                                          have BK201 := n3_
                                          have HB := n4_
                                          clear n0_ n1_ n2_ n3_ n4_
                                          (try clear hb)
                                          (try clear hb2)
                                          (try clear hk)
                                          (try clear hi)
                                          refine hK.out _ _ ⟨(blk_cell BK195.out 0).trans rfl, (blk_cell BK195.out 1).trans rfl, (blk_cell BK201.out 0).trans rfl, (blk_cell BK201.out 1).trans rfl⟩ (fun hHeld => ?_)
                                          clear hK K
                                          refine norm_ (a' := ?_) ?_ ?_
                                          rotate_left
                                          · show Act.put _ (some 70) _ = _
                                            simp only [Act.put, List.setIfInBounds_toArray, List.set_cons_zero, List.set_cons_succ, i64_w, i32_w]
                                            rfl
                                          refine pure_ (i := 8) (N := some 71) (v := ?_) (a' := ?_) #[true, true, true, true, true, true, true, true, true, false, false] rfl rfl (any_of HT_.out (by kernel_rfl)) (fun _ _ _ h => h) (Or.inl ⟨by rfl, ?_⟩) ?_ ?_
                                          rotate_left
                                          · intro w'
                                            go_simp
                                            with_reducible rfl
                                          rotate_left
                                          · simp only [Act.put, List.setIfInBounds_toArray, List.set_cons_zero, List.set_cons_succ, i64_w, i32_w]
                                            rfl
                                          refine pure_ (i := 9) (N := some 72) (v := ?_) (a' := ?_) #[true, true, true, true, true, true, true, true, true, true, false] rfl rfl (any_of HT_.out (by kernel_rfl)) (fun _ _ _ h => h) (Or.inl ⟨by rfl, ?_⟩) ?_ ?_
                                          rotate_left
                                          · intro w'
                                            go_simp
                                            with_reducible rfl
                                          rotate_left
                                          · simp only [Act.put, List.setIfInBounds_toArray, List.set_cons_zero, List.set_cons_succ, i64_w, i32_w]
                                            rfl
                                          refine pure_ (i := 10) (N := some 11) (v := ?_) (a' := ?_) #[true, true, true, true, true, true, true, true, true, true, true] rfl rfl (any_of HT_.out (by kernel_rfl)) (fun _ _ _ h => h) (Or.inl ⟨by rfl, ?_⟩) ?_ ?_
                                          rotate_left
                                          · intro w'
                                            go_simp
                                            with_reducible rfl
                                          rotate_left
                                          · simp only [Act.put, List.setIfInBounds_toArray, List.set_cons_zero, List.set_cons_succ, i64_w, i32_w]
                                            rfl
                                          refine done_ (done_of HT_.out (by kernel_rfl)) ?_
                                          try go_wp2
                                          go_roundg k4
                                          case measure => have := HJ4.out; have := HK2.out; have := HK3.out; have := HK4.out; omega
                                          case rel => exact ⟨((t202.toList != t203.toList)), (wrap64 (x59_4 + 1)), (by first | rfl | (simp; done) | (simp [*]; done)), (by first | rfl | (simp; done) | (simp [*]; done)), H', ⟨by have := HJ4.out; have := HK2.out; have := HK3.out; have := HK4.out; omega⟩, ⟨by (with_reducible repeat (first | apply Kd.R_alloc | apply Kd.R_drewN | apply Kd.R_drew)); exact HO_5.out⟩, ⟨by (with_reducible repeat (first | apply Kd.R_alloc | apply Kd.R_drewN | apply Kd.R_drew)); exact Kd.R_mono HO_8.out (fun _ hk => hk.1)⟩, ⟨by (with_reducible repeat (first | refine blk_drewN ?_ _ | refine blk_drew ?_ | refine blk_alloc ?_ _)); exact BK195.out⟩, ⟨by repeat (first | (with_reducible first | exact HB.out | apply below_alloc | apply pw_below_drewN | apply below_drew1 | refine below_set ?_ GE195.out | refine below_set ?_ GE201.out) | exact HB.out)⟩⟩
                                        · replace c45 := Bool.eq_false_iff.mpr c45
                                          subst c45
                                          have H1 : (pantrylaw03_FieldSets.l2 k4 l1 x5_2 t187 false l1 (l1.length : Int) x49_3 y196 (y196.length : Int) (wrap64 (x59_4 + 1)) ((rd_T39 l1 x49_3).f0) ((rd_T39 l1 x49_3).f1)) = some r := by rw [if_neg (show ¬ (false = true) by decide)] at H; exact H
                                          clear H
                                          have H := H1
                                          clear H1
                                          have H' := Aside0.mk H
                                          clear H
                                          have p200 : 0 ≤ (x59_4 : Int) := of_decide_eq_true (by first | (with_reducible assumption) | assumption)
                                          have q200 : x59_4 < (y196.length : Int) := of_decide_eq_true (by first | (with_reducible assumption) | assumption)
                                          obtain ⟨ad200, e200, hx200_0, hx200_1⟩ := at_T39 HR199.out x59_4 p200 q200
                                          cases e200
                                          replace hx200_0 := (HB.out.cell (World.block_lt_of_cell? w _ hx200_0)).trans hx200_0
                                          replace hx200_1 := (HB.out.cell (World.block_lt_of_cell? w _ hx200_1)).trans hx200_1
                                          replace p200 := eq_true p200
                                          replace q200 := eq_true q200
                                          try go_wp2_with (first | ((with_reducible refine gate_dst (N := 13) rfl ?_); (try (refine gate_guard (by rfl) ?_; dsimp only)); refine box_event ?hg (N := 13) ?hd (cs := #[.string (⟨#[]⟩ : ByteArray), .string (⟨#[]⟩ : ByteArray)]) (t := 39) ?hr ?_; (case hd => rfl); (case hg => rfl); (case hr => first | (go_simp; done) | (go_simp; rfl)); intro gb201 hg w55 hbox hb; have n0_ := Aside0.mk (Kd.R_below (by (with_reducible repeat (first | apply Kd.R_alloc | apply Kd.R_drewN | apply Kd.R_drew)); exact HO_5.out) hb); have n1_ := Aside0.mk (Kd.R_below (Kd.R_elderB (by (with_reducible repeat (first | apply Kd.R_alloc | apply Kd.R_drewN | apply Kd.R_drew)); exact HO_8.out) gb201 (Nat.le_of_eq hg.symm)) hb); have n2_ := Aside0.mk (blk_below (g := gb195) (o := .cells #[.string ((rd_T39 l1 x49_3).f0), .string ((rd_T39 l1 x49_3).f1)] 39 (0, 0)) (by (with_reducible repeat (first | refine blk_drewN ?_ _ | refine blk_drew ?_ | refine blk_alloc ?_ _)); exact BK195.out) hb); have n3_ := Aside0.mk (below_step (by repeat (first | (with_reducible first | exact HB.out | apply below_alloc | apply pw_below_drewN | apply below_drew1 | refine below_set ?_ GE195.out) | exact HB.out)) hb); have n4_ := Aside0.mk (hbox); have n5_ := Aside0.mk ((by rw [hg]; exact (below_size (by repeat (first | (with_reducible first | exact HB.out | apply below_alloc | apply pw_below_drewN | apply below_drew1 | refine below_set ?_ GE195.out) | exact HB.out))) : w.heap.size ≤ gb201)); have n6_ := Aside0.mk ((by rw [hg]; exact (below_size (by repeat (first | (with_reducible first | exact HB.out | apply below_alloc | apply pw_below_drewN | apply below_drew1 | refine below_set ?_ GE195.out) | exact HB.out))) : w.heap.size ≤ gb201)); have n7_ := Aside0.mk ((by rw [hg]; exact Nat.ne_of_lt (blk_lt (g := gb195) (o := .cells #[.string ((rd_T39 l1 x49_3).f0), .string ((rd_T39 l1 x49_3).f1)] 39 (0, 0)) (by (with_reducible repeat (first | refine blk_drewN ?_ _ | refine blk_drew ?_ | refine blk_alloc ?_ _)); exact BK195.out)) : gb195 ≠ gb201)); have n8_ := Aside0.mk ((by rw [hg]; exact Nat.ne_of_gt (blk_lt (g := gb195) (o := .cells #[.string ((rd_T39 l1 x49_3).f0), .string ((rd_T39 l1 x49_3).f1)] 39 (0, 0)) (by (with_reducible repeat (first | refine blk_drewN ?_ _ | refine blk_drew ?_ | refine blk_alloc ?_ _)); exact BK195.out)) : gb201 ≠ gb195)); clear HO_5; clear HO_8; clear BK195; clear HB; have HO_5 := n0_; have HO_8 := n1_; have BK195 := n2_; have HB := n3_; have BK201 := n4_; have GW201 := n5_; have GE201 := n6_; have NB195_201 := n7_; have NB201_195 := n8_; clear n0_ n1_ n2_ n3_ n4_ n5_ n6_ n7_ n8_; clear hb hbox hg; have hnb56 := NB201_195.out; have hnc56 := NB195_201.out; have hcz57_0 : w55.cell? ⟨gb201, 0, none⟩ = some (.string (⟨#[]⟩ : ByteArray)) := (blk_cell BK201.out 0).trans rfl; have hcz57_1 : w55.cell? ⟨gb201, 1, none⟩ = some (.string (⟨#[]⟩ : ByteArray)) := (blk_cell BK201.out 1).trans rfl; have hfz57_0 := blk_frozen BK201.out 0; have hfz57_1 := blk_frozen BK201.out 1))
                                          have n0_ : Aside0 (Kd.R k36 36 ((w55.setCell ⟨gb201, 0, none⟩ (.string ((rd_T39 y196 x59_4).f0))).setCell ⟨gb201, 1, none⟩ (.string ((rd_T39 y196 x59_4).f1))) w.heap.size (fun _ => True) u5 x5_2) := ⟨by (with_reducible repeat (first | apply Kd.R_alloc | apply Kd.R_drewN | apply Kd.R_drew)); exact Kd.R_mono (Kd.R_far (p := ⟨gb201, 1, none⟩) (Kd.R_far (p := ⟨gb201, 0, none⟩) (Kd.R_types HO_5.out BK201.out (by decide)) (fun _ hk => hk.2) (.string ((rd_T39 y196 x59_4).f0))) (fun _ hk => hk.2) (.string ((rd_T39 y196 x59_4).f1))) (fun _ hk => trivial)⟩
                                          have n1_ : Aside0 (Kd.R k39 39 ((w55.setCell ⟨gb201, 0, none⟩ (.string ((rd_T39 y196 x59_4).f0))).setCell ⟨gb201, 1, none⟩ (.string ((rd_T39 y196 x59_4).f1))) w.heap.size (fun k_ => k_ ≠ gb195 ∧ k_ ≠ gb201) v188 t187) := ⟨by (with_reducible repeat (first | apply Kd.R_alloc | apply Kd.R_drewN | apply Kd.R_drew)); exact Kd.R_mono (Kd.R_far (p := ⟨gb201, 1, none⟩) (Kd.R_far (p := ⟨gb201, 0, none⟩) (Kd.R_mono HO_8.out (fun k_ hk => (⟨hk, hk.2⟩ : _ ∧ k_ ≠ gb201))) (fun _ hk => hk.2) (.string ((rd_T39 y196 x59_4).f0))) (fun _ hk => hk.2) (.string ((rd_T39 y196 x59_4).f1))) (fun _ hk => ⟨hk.1.1, hk.1.2⟩)⟩
                                          have n2_ : Aside0 (((w55.setCell ⟨gb201, 0, none⟩ (.string ((rd_T39 y196 x59_4).f0))).setCell ⟨gb201, 1, none⟩ (.string ((rd_T39 y196 x59_4).f1))).heap[gb195]? = some (.cells #[.string ((rd_T39 l1 x49_3).f0), .string ((rd_T39 l1 x49_3).f1)] 39 (0, 0))) := ⟨by (with_reducible repeat (first | refine blk_drewN ?_ _ | refine blk_drew ?_ | refine blk_alloc ?_ _)); refine blk_far ?_ NB195_201.out _; (with_reducible repeat (first | refine blk_drewN ?_ _ | refine blk_drew ?_ | refine blk_alloc ?_ _)); refine blk_far ?_ NB195_201.out _; (with_reducible repeat (first | refine blk_drewN ?_ _ | refine blk_drew ?_ | refine blk_alloc ?_ _)); exact BK195.out⟩
                                          have n3_ : Aside0 (((w55.setCell ⟨gb201, 0, none⟩ (.string ((rd_T39 y196 x59_4).f0))).setCell ⟨gb201, 1, none⟩ (.string ((rd_T39 y196 x59_4).f1))).heap[gb201]? = some (.cells #[.string ((rd_T39 y196 x59_4).f0), .string ((rd_T39 y196 x59_4).f1)] 39 (0, 0))) := ⟨by (with_reducible repeat (first | refine blk_drewN ?_ _ | refine blk_drew ?_ | refine blk_alloc ?_ _)); refine blk_put (cs := #[.string ((rd_T39 y196 x59_4).f0), .string (⟨#[]⟩ : ByteArray)]) ?_ 1 _ rfl; (with_reducible repeat (first | refine blk_drewN ?_ _ | refine blk_drew ?_ | refine blk_alloc ?_ _)); refine blk_put (cs := #[.string (⟨#[]⟩ : ByteArray), .string (⟨#[]⟩ : ByteArray)]) ?_ 0 _ rfl; (with_reducible repeat (first | refine blk_drewN ?_ _ | refine blk_drew ?_ | refine blk_alloc ?_ _)); exact BK201.out⟩
                                          have n4_ : Aside0 (Below w.heap.size w ((w55.setCell ⟨gb201, 0, none⟩ (.string ((rd_T39 y196 x59_4).f0))).setCell ⟨gb201, 1, none⟩ (.string ((rd_T39 y196 x59_4).f1)))) := ⟨by repeat (first | (with_reducible first | exact HB.out | apply below_alloc | apply pw_below_drewN | apply below_drew1 | refine below_set ?_ GE195.out | refine below_set ?_ GE201.out) | exact HB.out)⟩
                                          (try clear HO_5)
                                          (try clear HO_8)
                                          (try clear BK195)
                                          (try clear BK201)
                                          (try clear HB)
                                          generalize ((w55.setCell ⟨gb201, 0, none⟩ (.string ((rd_T39 y196 x59_4).f0))).setCell ⟨gb201, 1, none⟩ (.string ((rd_T39 y196 x59_4).f1))) = w58 at n0_ n1_ n2_ n3_ n4_ ⊢
                                          have HO_5 := n0_
                                          have HO_8 := n1_
                                          have BK195 := n2_
                                          have BK201 := n3_
                                          have HB := n4_
                                          clear n0_ n1_ n2_ n3_ n4_
                                          have n0_ := Aside0.mk (Kd.R_drew HO_5.out)
                                          have n1_ := Aside0.mk (Kd.R_drew HO_8.out)
                                          have n2_ := Aside0.mk (blk_drew BK195.out)
                                          have n3_ := Aside0.mk (blk_drew BK201.out)
                                          have n4_ := Aside0.mk (below_drew1 HB.out)
                                          clear HO_5
                                          clear HO_8
                                          clear BK195
                                          clear BK201
                                          clear HB
                                          have HO_5 := n0_
                                          have HO_8 := n1_
                                          have BK195 := n2_
                                          have BK201 := n3_
                                          have HB := n4_
                                          clear n0_ n1_ n2_ n3_ n4_
                                          refine start_ (n := 11) (S := fun w' => True) (ds := []) #[false, false, false, false, false, false, false, false, false, false, false] (by kernel_rfl) rfl rfl trivial (fun hHeld => ?_); refine with_tabW pantrylaw03_FieldSets.tab19 pantrylaw03_FieldSets.bits19 (fun HT_ HW_ => ?_)
                                          generalize w58.drew = w59 at HO_5 HO_8 BK195 BK201 HB hHeld ⊢
                                          refine pure_ (i := 0) (N := some 63) (v := ?_) (a' := ?_) #[true, false, false, false, false, false, false, false, false, false, false] rfl rfl (any_of HT_.out (by kernel_rfl)) (fun _ _ _ h => h) (Or.inl ⟨by rfl, ?_⟩) ?_ ?_
                                          rotate_left
                                          · intro w'
                                            go_simp
                                            with_reducible rfl
                                          rotate_left
                                          · simp only [Act.put, List.setIfInBounds_toArray, List.set_cons_zero, List.set_cons_succ, i64_w, i32_w]
                                            rfl
                                          refine pure_ (i := 1) (N := some 64) (v := ?_) (a' := ?_) #[true, true, false, false, false, false, false, false, false, false, false] rfl rfl (any_of HT_.out (by kernel_rfl)) (fun _ _ _ h => h) (Or.inl ⟨by rfl, ?_⟩) ?_ ?_
                                          rotate_left
                                          · intro w'
                                            go_simp
                                            with_reducible rfl
                                          rotate_left
                                          · simp only [Act.put, List.setIfInBounds_toArray, List.set_cons_zero, List.set_cons_succ, i64_w, i32_w]
                                            rfl
                                          refine pure_ (i := 2) (N := some 65) (v := undef) (a' := ?_) #[true, true, true, false, false, false, false, false, false, false, false] rfl rfl (any_of HT_.out (by kernel_rfl)) (fun _ _ _ h => h) (Or.inr ⟨by rfl, rfl⟩) ?_ ?_
                                          rotate_left
                                          · simp only [Act.put, List.setIfInBounds_toArray, List.set_cons_zero, List.set_cons_succ, i64_w, i32_w]
                                            rfl
                                          refine pure_ (i := 3) (N := some 66) (v := undef) (a' := ?_) #[true, true, true, true, false, false, false, false, false, false, false] rfl rfl (any_of HT_.out (by kernel_rfl)) (fun _ _ _ h => h) (Or.inr ⟨by rfl, rfl⟩) ?_ ?_
                                          rotate_left
                                          · simp only [Act.put, List.setIfInBounds_toArray, List.set_cons_zero, List.set_cons_succ, i64_w, i32_w]
                                            rfl
                                          refine pure_ (i := 4) (N := some 67) (v := undef) (a' := ?_) #[true, true, true, true, true, false, false, false, false, false, false] rfl rfl (any_of HT_.out (by kernel_rfl)) (fun _ _ _ h => h) (Or.inr ⟨by rfl, rfl⟩) ?_ ?_
                                          rotate_left
                                          · simp only [Act.put, List.setIfInBounds_toArray, List.set_cons_zero, List.set_cons_succ, i64_w, i32_w]
                                            rfl
                                          refine pure_ (i := 5) (N := some 68) (v := undef) (a' := ?_) #[true, true, true, true, true, true, false, false, false, false, false] rfl rfl (any_of HT_.out (by kernel_rfl)) (fun _ _ _ h => h) (Or.inr ⟨by rfl, rfl⟩) ?_ ?_
                                          rotate_left
                                          · simp only [Act.put, List.setIfInBounds_toArray, List.set_cons_zero, List.set_cons_succ, i64_w, i32_w]
                                            rfl
                                          refine pure_ (i := 6) (N := some 69) (v := undef) (a' := ?_) #[true, true, true, true, true, true, true, false, false, false, false] rfl rfl (any_of HT_.out (by kernel_rfl)) (fun _ _ _ h => h) (Or.inr ⟨by rfl, rfl⟩) ?_ ?_
                                          rotate_left
                                          · simp only [Act.put, List.setIfInBounds_toArray, List.set_cons_zero, List.set_cons_succ, i64_w, i32_w]
                                            rfl
                                          refine pure_ (i := 7) (N := some 70) (v := undef) (a' := ?_) #[true, true, true, true, true, true, true, true, false, false, false] rfl rfl (any_of HT_.out (by kernel_rfl)) (fun _ _ _ h => h) (Or.inr ⟨by rfl, rfl⟩) ?_ ?_
                                          rotate_left
                                          · simp only [Act.put, List.setIfInBounds_toArray, List.set_cons_zero, List.set_cons_succ, i64_w, i32_w]
                                            rfl
                                          refine pure_ (i := 8) (N := some 71) (v := undef) (a' := ?_) #[true, true, true, true, true, true, true, true, true, false, false] rfl rfl (any_of HT_.out (by kernel_rfl)) (fun _ _ _ h => h) (Or.inr ⟨by rfl, rfl⟩) ?_ ?_
                                          rotate_left
                                          · simp only [Act.put, List.setIfInBounds_toArray, List.set_cons_zero, List.set_cons_succ, i64_w, i32_w]
                                            rfl
                                          refine pure_ (i := 9) (N := some 72) (v := ?_) (a' := ?_) #[true, true, true, true, true, true, true, true, true, true, false] rfl rfl (any_of HT_.out (by kernel_rfl)) (fun _ _ _ h => h) (Or.inl ⟨by rfl, ?_⟩) ?_ ?_
                                          rotate_left
                                          · intro w'
                                            go_simp
                                            with_reducible rfl
                                          rotate_left
                                          · simp only [Act.put, List.setIfInBounds_toArray, List.set_cons_zero, List.set_cons_succ, i64_w, i32_w]
                                            rfl
                                          refine pure_ (i := 10) (N := some 11) (v := ?_) (a' := ?_) #[true, true, true, true, true, true, true, true, true, true, true] rfl rfl (any_of HT_.out (by kernel_rfl)) (fun _ _ _ h => h) (Or.inl ⟨by rfl, ?_⟩) ?_ ?_
                                          rotate_left
                                          · intro w'
                                            go_simp
                                            with_reducible rfl
                                          rotate_left
                                          · simp only [Act.put, List.setIfInBounds_toArray, List.set_cons_zero, List.set_cons_succ, i64_w, i32_w]
                                            rfl
                                          refine done_ (done_of HT_.out (by kernel_rfl)) ?_
                                          try go_wp2
                                          go_roundg k4
                                          case measure => have := HJ4.out; have := HK2.out; have := HK3.out; have := HK4.out; omega
                                          case rel => exact ⟨(false), (wrap64 (x59_4 + 1)), (by first | rfl | (simp; done) | (simp [*]; done)), (by first | rfl | (simp; done) | (simp [*]; done)), H', ⟨by have := HJ4.out; have := HK2.out; have := HK3.out; have := HK4.out; omega⟩, ⟨by (with_reducible repeat (first | apply Kd.R_alloc | apply Kd.R_drewN | apply Kd.R_drew)); exact HO_5.out⟩, ⟨by (with_reducible repeat (first | apply Kd.R_alloc | apply Kd.R_drewN | apply Kd.R_drew)); exact Kd.R_mono HO_8.out (fun _ hk => hk.1)⟩, ⟨by (with_reducible repeat (first | refine blk_drewN ?_ _ | refine blk_drew ?_ | refine blk_alloc ?_ _)); exact BK195.out⟩, ⟨by repeat (first | (with_reducible first | exact HB.out | apply below_alloc | apply pw_below_drewN | apply below_drew1 | refine below_set ?_ GE195.out | refine below_set ?_ GE201.out) | exact HB.out)⟩⟩
                                      · rw [if_neg c44] at H
                                        exact absurd H (by simp)
                                    · rw [if_neg c43] at H
                                      exact absurd H (by simp)
                                  · rw [if_neg c42] at H
                                    have c42b0 : decide (x59_4 < (y196.length : Int)) = false := decide_eq_false c42
                                    clear c42
                                    replace H := Option.bind_eq_some_iff.mp H
                                    obtain ⟨⟨t204, t205⟩, A600, H⟩ := H
                                    replace H : (if x11_4 = true then (if t205 = true then (if t204.toList = ((rd_T39 l1 x49_3).f1).toList then ((field_List_All.f k4 t187 ((rd_T39 l1 x49_3).f0)).bind fun t206 => (if (t206.length : Int) = 1 then (pantrylaw03_FieldSets.l1 k4 l1 x5_2 t187 l1 (l1.length : Int) (wrap64 (x49_3 + 1))) else (some false))) else (some false)) else (some false)) else (pantrylaw03_FieldSets.l1 k4 l1 x5_2 t187 l1 (l1.length : Int) (wrap64 (x49_3 + 1)))) = some r := H
                                    have A60 := Aside0.mk A600
                                    clear A600
                                    by_cases c61 : x11_4 = true
                                    · subst c61
                                      have H1 : (if t205 = true then (if t204.toList = ((rd_T39 l1 x49_3).f1).toList then ((field_List_All.f k4 t187 ((rd_T39 l1 x49_3).f0)).bind fun t206 => (if (t206.length : Int) = 1 then (pantrylaw03_FieldSets.l1 k4 l1 x5_2 t187 l1 (l1.length : Int) (wrap64 (x49_3 + 1))) else (some false))) else (some false)) else (some false)) = some r := by rw [if_pos rfl] at H; exact H
                                      clear H
                                      have H := H1
                                      clear H1
                                      by_cases c62 : t205 = true
                                      · subst c62
                                        have H1 : (if t204.toList = ((rd_T39 l1 x49_3).f1).toList then ((field_List_All.f k4 t187 ((rd_T39 l1 x49_3).f0)).bind fun t206 => (if (t206.length : Int) = 1 then (pantrylaw03_FieldSets.l1 k4 l1 x5_2 t187 l1 (l1.length : Int) (wrap64 (x49_3 + 1))) else (some false))) else (some false)) = some r := by rw [if_pos rfl] at H; exact H
                                        clear H
                                        have H := H1
                                        clear H1
                                        by_cases c63 : t204.toList = ((rd_T39 l1 x49_3).f1).toList
                                        · rw [if_pos c63] at H
                                          have c63b0 : (t204.toList == ((rd_T39 l1 x49_3).f1).toList) = true := beq_iff_eq.mpr c63
                                          have c63b1 : (t204.toList != ((rd_T39 l1 x49_3).f1).toList) = false := bne_eq_false_iff_eq.mpr c63
                                          clear c63
                                          replace H := Option.bind_eq_some_iff.mp H
                                          obtain ⟨t206, A640, H⟩ := H
                                          replace H : (if (t206.length : Int) = 1 then (pantrylaw03_FieldSets.l1 k4 l1 x5_2 t187 l1 (l1.length : Int) (wrap64 (x49_3 + 1))) else (some false)) = some r := H
                                          have A64 := Aside0.mk A640
                                          clear A640
                                          by_cases c65 : (t206.length : Int) = 1
                                          · rw [if_pos c65] at H
                                            have c65b0 : ((t206.length : Int) == 1) = true := beq_iff_eq.mpr c65
                                            have c65b1 : ((t206.length : Int) != 1) = false := bne_eq_false_iff_eq.mpr c65
                                            clear c65
                                            have H' := Aside0.mk H
                                            clear H
                                            have hcz66_0 : wr.cell? ⟨gb195, 0, none⟩ = some (.string ((rd_T39 l1 x49_3).f0)) := (blk_cell BK195.out 0).trans rfl
                                            have hcz66_1 : wr.cell? ⟨gb195, 1, none⟩ = some (.string ((rd_T39 l1 x49_3).f1)) := (blk_cell BK195.out 1).trans rfl
                                            have hfz66_0 := blk_frozen BK195.out 0
                                            have hfz66_1 := blk_frozen BK195.out 1
                                            obtain ⟨Ao67, co67, eo67⟩ := Kd.R_slice HO_8.out
                                            subst eo67
                                            go_wp2_with (first | ((with_reducible refine gate_callee (f := 15) rfl ?_); refine goesL_ (some 78) rfl rfl Tryd.func15 (by kernel_rfl) rfl #[.slice Ao67 t187.length co67, .string ((rd_T39 l1 x49_3).f0)] rfl (by (try simp only [List.map_toArray, List.map_cons, List.map_nil]); first | done | rfl | (simp only [List.length_drop, List.length_take]; rfl)) ?_; (with_reducible refine (field_List_Get.calls k4 _ _ t187 ((rd_T39 l1 x49_3).f0) t204 true _ ?side1 ?side2 A60.out).mono ?_); (case side1 => repeat (first | exact (Kd.R_reads' HO_8.out).2.2 | (with_reducible refine Kd.C_alloc ?_ _) | (with_reducible refine Kd.C_drewN ?_ _) | (with_reducible refine Kd.C_drew ?_))); (case side2 => exact (Kd.R_reads' HO_8.out).2.1); rintro e w68 ⟨rfl, hb⟩; refine ⟨_, rfl, ?_⟩; have n0_ := Aside0.mk (Kd.R_below (by (with_reducible repeat (first | apply Kd.R_alloc | apply Kd.R_drewN | apply Kd.R_drew)); exact HO_5.out) hb); have n1_ := Aside0.mk (Kd.R_below (by (with_reducible repeat (first | apply Kd.R_alloc | apply Kd.R_drewN | apply Kd.R_drew)); exact HO_8.out) hb); have n2_ := Aside0.mk (blk_below (g := gb195) (o := .cells #[.string ((rd_T39 l1 x49_3).f0), .string ((rd_T39 l1 x49_3).f1)] 39 (0, 0)) (by (with_reducible repeat (first | refine blk_drewN ?_ _ | refine blk_drew ?_ | refine blk_alloc ?_ _)); exact BK195.out) hb); have n3_ := Aside0.mk (below_step (by repeat (first | (with_reducible first | exact HB.out | apply below_alloc | apply pw_below_drewN | apply below_drew1 | refine below_set ?_ GE195.out) | exact HB.out)) hb); clear HO_5; clear HO_8; clear BK195; clear HB; have HO_5 := n0_; have HO_8 := n1_; have BK195 := n2_; have HB := n3_; clear n0_ n1_ n2_ n3_; (try clear hb); (try clear hb2); (try clear hk); (try clear hi); have hcz69_0 : w68.cell? ⟨gb195, 0, none⟩ = some (.string ((rd_T39 l1 x49_3).f0)) := (blk_cell BK195.out 0).trans rfl; have hcz69_1 : w68.cell? ⟨gb195, 1, none⟩ = some (.string ((rd_T39 l1 x49_3).f1)) := (blk_cell BK195.out 1).trans rfl; have hfz69_0 := blk_frozen BK195.out 0; have hfz69_1 := blk_frozen BK195.out 1) | (go_at_call 20; (with_reducible refine (field_List_All.calls k4 _ _ t187 ((rd_T39 l1 x49_3).f0) t206 _ ?side1 ?side2 A64.out).mono ?_); (case side1 => repeat (first | exact (Kd.R_reads' HO_8.out).2.2 | (with_reducible refine Kd.C_alloc ?_ _) | (with_reducible refine Kd.C_drewN ?_ _) | (with_reducible refine Kd.C_drew ?_))); (case side2 => exact (Kd.R_reads' HO_8.out).2.1); rintro e w70 ⟨v207, rfl, ho0, hb⟩; have n0_ := Aside0.mk (Kd.R_below (by (with_reducible repeat (first | apply Kd.R_alloc | apply Kd.R_drewN | apply Kd.R_drew)); exact HO_5.out) hb); have n1_ := Aside0.mk (Kd.R_below (by (with_reducible repeat (first | apply Kd.R_alloc | apply Kd.R_drewN | apply Kd.R_drew)); exact HO_8.out) hb); have n2_ := Aside0.mk (Kd.R_lower ho0 (below_size (by repeat (first | (with_reducible first | exact HB.out | apply below_alloc | apply pw_below_drewN | apply below_drew1 | refine below_set ?_ GE195.out) | exact HB.out)))); have n3_ := Aside0.mk (blk_below (g := gb195) (o := .cells #[.string ((rd_T39 l1 x49_3).f0), .string ((rd_T39 l1 x49_3).f1)] 39 (0, 0)) (by (with_reducible repeat (first | refine blk_drewN ?_ _ | refine blk_drew ?_ | refine blk_alloc ?_ _)); exact BK195.out) hb); have n4_ := Aside0.mk (below_step (by repeat (first | (with_reducible first | exact HB.out | apply below_alloc | apply pw_below_drewN | apply below_drew1 | refine below_set ?_ GE195.out) | exact HB.out)) hb); clear HO_5; clear HO_8; clear BK195; clear HB; have HO_5 := n0_; have HO_8 := n1_; have HO208 := n2_; have BK195 := n3_; have HB := n4_; clear n0_ n1_ n2_ n3_ n4_; (try clear hb); (try clear hb2); (try clear hk); (try clear hi); (try clear ho0); obtain ⟨Ao71, co71, eo71⟩ := Kd.R_slice HO208.out; subst eo71))
                                            go_roundg k4
                                            case measure => have := HJ4.out; have := HK2.out; have := HK3.out; have := HK4.out; omega
                                            case rel => exact ⟨(wrap64 (x49_3 + 1)), (by first | rfl | (simp; done) | (simp [*]; done)), H', ⟨by have := HJ4.out; have := HK2.out; have := HK3.out; have := HK4.out; omega⟩, ⟨by (with_reducible repeat (first | apply Kd.R_alloc | apply Kd.R_drewN | apply Kd.R_drew)); exact HO_5.out⟩, ⟨by (with_reducible repeat (first | apply Kd.R_alloc | apply Kd.R_drewN | apply Kd.R_drew)); exact Kd.R_mono HO_8.out (fun _ hk => trivial)⟩, ⟨by repeat (first | (with_reducible first | exact HB.out | apply below_alloc | apply pw_below_drewN | apply below_drew1 | refine below_set ?_ GE195.out) | exact HB.out)⟩⟩
                                          · rw [if_neg c65] at H
                                            have c65b0 : ((t206.length : Int) == 1) = false := beq_eq_false_iff_ne.mpr c65
                                            have c65b1 : ((t206.length : Int) != 1) = true := bne_iff_ne.mpr c65
                                            obtain rfl := Option.some.inj H
                                            have hcz72_0 : wr.cell? ⟨gb195, 0, none⟩ = some (.string ((rd_T39 l1 x49_3).f0)) := (blk_cell BK195.out 0).trans rfl
                                            have hcz72_1 : wr.cell? ⟨gb195, 1, none⟩ = some (.string ((rd_T39 l1 x49_3).f1)) := (blk_cell BK195.out 1).trans rfl
                                            have hfz72_0 := blk_frozen BK195.out 0
                                            have hfz72_1 := blk_frozen BK195.out 1
                                            obtain ⟨Ao73, co73, eo73⟩ := Kd.R_slice HO_8.out
                                            subst eo73
                                            go_wp2_with (first | ((with_reducible refine gate_callee (f := 15) rfl ?_); refine goesL_ (some 78) rfl rfl Tryd.func15 (by kernel_rfl) rfl #[.slice Ao73 t187.length co73, .string ((rd_T39 l1 x49_3).f0)] rfl (by (try simp only [List.map_toArray, List.map_cons, List.map_nil]); first | done | rfl | (simp only [List.length_drop, List.length_take]; rfl)) ?_; (with_reducible refine (field_List_Get.calls k4 _ _ t187 ((rd_T39 l1 x49_3).f0) t204 true _ ?side1 ?side2 A60.out).mono ?_); (case side1 => repeat (first | exact (Kd.R_reads' HO_8.out).2.2 | (with_reducible refine Kd.C_alloc ?_ _) | (with_reducible refine Kd.C_drewN ?_ _) | (with_reducible refine Kd.C_drew ?_))); (case side2 => exact (Kd.R_reads' HO_8.out).2.1); rintro e w74 ⟨rfl, hb⟩; refine ⟨_, rfl, ?_⟩; have n0_ := Aside0.mk (Kd.R_below (by (with_reducible repeat (first | apply Kd.R_alloc | apply Kd.R_drewN | apply Kd.R_drew)); exact HO_5.out) hb); have n1_ := Aside0.mk (Kd.R_below (by (with_reducible repeat (first | apply Kd.R_alloc | apply Kd.R_drewN | apply Kd.R_drew)); exact HO_8.out) hb); have n2_ := Aside0.mk (blk_below (g := gb195) (o := .cells #[.string ((rd_T39 l1 x49_3).f0), .string ((rd_T39 l1 x49_3).f1)] 39 (0, 0)) (by (with_reducible repeat (first | refine blk_drewN ?_ _ | refine blk_drew ?_ | refine blk_alloc ?_ _)); exact BK195.out) hb); have n3_ := Aside0.mk (below_step (by repeat (first | (with_reducible first | exact HB.out | apply below_alloc | apply pw_below_drewN | apply below_drew1 | refine below_set ?_ GE195.out) | exact HB.out)) hb); clear HO_5; clear HO_8; clear BK195; clear HB; have HO_5 := n0_; have HO_8 := n1_; have BK195 := n2_; have HB := n3_; clear n0_ n1_ n2_ n3_; (try clear hb); (try clear hb2); (try clear hk); (try clear hi); have hcz75_0 : w74.cell? ⟨gb195, 0, none⟩ = some (.string ((rd_T39 l1 x49_3).f0)) := (blk_cell BK195.out 0).trans rfl; have hcz75_1 : w74.cell? ⟨gb195, 1, none⟩ = some (.string ((rd_T39 l1 x49_3).f1)) := (blk_cell BK195.out 1).trans rfl; have hfz75_0 := blk_frozen BK195.out 0; have hfz75_1 := blk_frozen BK195.out 1) | (go_at_call 20; (with_reducible refine (field_List_All.calls k4 _ _ t187 ((rd_T39 l1 x49_3).f0) t206 _ ?side1 ?side2 A64.out).mono ?_); (case side1 => repeat (first | exact (Kd.R_reads' HO_8.out).2.2 | (with_reducible refine Kd.C_alloc ?_ _) | (with_reducible refine Kd.C_drewN ?_ _) | (with_reducible refine Kd.C_drew ?_))); (case side2 => exact (Kd.R_reads' HO_8.out).2.1); rintro e w76 ⟨v207, rfl, ho0, hb⟩; have n0_ := Aside0.mk (Kd.R_below (by (with_reducible repeat (first | apply Kd.R_alloc | apply Kd.R_drewN | apply Kd.R_drew)); exact HO_5.out) hb); have n1_ := Aside0.mk (Kd.R_below (by (with_reducible repeat (first | apply Kd.R_alloc | apply Kd.R_drewN | apply Kd.R_drew)); exact HO_8.out) hb); have n2_ := Aside0.mk (Kd.R_lower ho0 (below_size (by repeat (first | (with_reducible first | exact HB.out | apply below_alloc | apply pw_below_drewN | apply below_drew1 | refine below_set ?_ GE195.out) | exact HB.out)))); have n3_ := Aside0.mk (blk_below (g := gb195) (o := .cells #[.string ((rd_T39 l1 x49_3).f0), .string ((rd_T39 l1 x49_3).f1)] 39 (0, 0)) (by (with_reducible repeat (first | refine blk_drewN ?_ _ | refine blk_drew ?_ | refine blk_alloc ?_ _)); exact BK195.out) hb); have n4_ := Aside0.mk (below_step (by repeat (first | (with_reducible first | exact HB.out | apply below_alloc | apply pw_below_drewN | apply below_drew1 | refine below_set ?_ GE195.out) | exact HB.out)) hb); clear HO_5; clear HO_8; clear BK195; clear HB; have HO_5 := n0_; have HO_8 := n1_; have HO208 := n2_; have BK195 := n3_; have HB := n4_; clear n0_ n1_ n2_ n3_ n4_; (try clear hb); (try clear hb2); (try clear hk); (try clear hi); (try clear ho0); obtain ⟨Ao77, co77, eo77⟩ := Kd.R_slice HO208.out; subst eo77))
                                            go_ret
                                            exact ⟨by first | rfl | (generalize ByteArray.toList _ = l_; cases l_ <;> rfl) | (simp [errW_none, errW_some] <;> rfl) | (simp only [← hji35]; first | rfl | (simp [errW_none, errW_some] <;> rfl)) | (simp [*, errW_none, errW_some] <;> rfl), by repeat (first | (with_reducible first | exact HB.out | apply below_alloc | apply pw_below_drewN | apply below_drew1 | refine below_set ?_ GE195.out) | exact HB.out)⟩
                                        · rw [if_neg c63] at H
                                          have c63b0 : (t204.toList == ((rd_T39 l1 x49_3).f1).toList) = false := beq_eq_false_iff_ne.mpr c63
                                          have c63b1 : (t204.toList != ((rd_T39 l1 x49_3).f1).toList) = true := bne_iff_ne.mpr c63
                                          obtain rfl := Option.some.inj H
                                          have hcz78_0 : wr.cell? ⟨gb195, 0, none⟩ = some (.string ((rd_T39 l1 x49_3).f0)) := (blk_cell BK195.out 0).trans rfl
                                          have hcz78_1 : wr.cell? ⟨gb195, 1, none⟩ = some (.string ((rd_T39 l1 x49_3).f1)) := (blk_cell BK195.out 1).trans rfl
                                          have hfz78_0 := blk_frozen BK195.out 0
                                          have hfz78_1 := blk_frozen BK195.out 1
                                          obtain ⟨Ao79, co79, eo79⟩ := Kd.R_slice HO_8.out
                                          subst eo79
                                          go_wp2_with (first | ((with_reducible refine gate_callee (f := 15) rfl ?_); refine goesL_ (some 78) rfl rfl Tryd.func15 (by kernel_rfl) rfl #[.slice Ao79 t187.length co79, .string ((rd_T39 l1 x49_3).f0)] rfl (by (try simp only [List.map_toArray, List.map_cons, List.map_nil]); first | done | rfl | (simp only [List.length_drop, List.length_take]; rfl)) ?_; (with_reducible refine (field_List_Get.calls k4 _ _ t187 ((rd_T39 l1 x49_3).f0) t204 true _ ?side1 ?side2 A60.out).mono ?_); (case side1 => repeat (first | exact (Kd.R_reads' HO_8.out).2.2 | (with_reducible refine Kd.C_alloc ?_ _) | (with_reducible refine Kd.C_drewN ?_ _) | (with_reducible refine Kd.C_drew ?_))); (case side2 => exact (Kd.R_reads' HO_8.out).2.1); rintro e w80 ⟨rfl, hb⟩; refine ⟨_, rfl, ?_⟩; have n0_ := Aside0.mk (Kd.R_below (by (with_reducible repeat (first | apply Kd.R_alloc | apply Kd.R_drewN | apply Kd.R_drew)); exact HO_5.out) hb); have n1_ := Aside0.mk (Kd.R_below (by (with_reducible repeat (first | apply Kd.R_alloc | apply Kd.R_drewN | apply Kd.R_drew)); exact HO_8.out) hb); have n2_ := Aside0.mk (blk_below (g := gb195) (o := .cells #[.string ((rd_T39 l1 x49_3).f0), .string ((rd_T39 l1 x49_3).f1)] 39 (0, 0)) (by (with_reducible repeat (first | refine blk_drewN ?_ _ | refine blk_drew ?_ | refine blk_alloc ?_ _)); exact BK195.out) hb); have n3_ := Aside0.mk (below_step (by repeat (first | (with_reducible first | exact HB.out | apply below_alloc | apply pw_below_drewN | apply below_drew1 | refine below_set ?_ GE195.out) | exact HB.out)) hb); clear HO_5; clear HO_8; clear BK195; clear HB; have HO_5 := n0_; have HO_8 := n1_; have BK195 := n2_; have HB := n3_; clear n0_ n1_ n2_ n3_; (try clear hb); (try clear hb2); (try clear hk); (try clear hi); have hcz81_0 : w80.cell? ⟨gb195, 0, none⟩ = some (.string ((rd_T39 l1 x49_3).f0)) := (blk_cell BK195.out 0).trans rfl; have hcz81_1 : w80.cell? ⟨gb195, 1, none⟩ = some (.string ((rd_T39 l1 x49_3).f1)) := (blk_cell BK195.out 1).trans rfl; have hfz81_0 := blk_frozen BK195.out 0; have hfz81_1 := blk_frozen BK195.out 1))
                                          go_ret
                                          exact ⟨by first | rfl | (generalize ByteArray.toList _ = l_; cases l_ <;> rfl) | (simp [errW_none, errW_some] <;> rfl) | (simp only [← hji35]; first | rfl | (simp [errW_none, errW_some] <;> rfl)) | (simp [*, errW_none, errW_some] <;> rfl), by repeat (first | (with_reducible first | exact HB.out | apply below_alloc | apply pw_below_drewN | apply below_drew1 | refine below_set ?_ GE195.out) | exact HB.out)⟩
                                      · replace c62 := Bool.eq_false_iff.mpr c62
                                        subst c62
                                        have H1 : (some false) = some r := by rw [if_neg (show ¬ (false = true) by decide)] at H; exact H
                                        clear H
                                        have H := H1
                                        clear H1
                                        obtain rfl := Option.some.inj H
                                        have hcz82_0 : wr.cell? ⟨gb195, 0, none⟩ = some (.string ((rd_T39 l1 x49_3).f0)) := (blk_cell BK195.out 0).trans rfl
                                        have hcz82_1 : wr.cell? ⟨gb195, 1, none⟩ = some (.string ((rd_T39 l1 x49_3).f1)) := (blk_cell BK195.out 1).trans rfl
                                        have hfz82_0 := blk_frozen BK195.out 0
                                        have hfz82_1 := blk_frozen BK195.out 1
                                        obtain ⟨Ao83, co83, eo83⟩ := Kd.R_slice HO_8.out
                                        subst eo83
                                        go_wp2_with (first | ((with_reducible refine gate_callee (f := 15) rfl ?_); refine goesL_ (some 78) rfl rfl Tryd.func15 (by kernel_rfl) rfl #[.slice Ao83 t187.length co83, .string ((rd_T39 l1 x49_3).f0)] rfl (by (try simp only [List.map_toArray, List.map_cons, List.map_nil]); first | done | rfl | (simp only [List.length_drop, List.length_take]; rfl)) ?_; (with_reducible refine (field_List_Get.calls k4 _ _ t187 ((rd_T39 l1 x49_3).f0) t204 false _ ?side1 ?side2 A60.out).mono ?_); (case side1 => repeat (first | exact (Kd.R_reads' HO_8.out).2.2 | (with_reducible refine Kd.C_alloc ?_ _) | (with_reducible refine Kd.C_drewN ?_ _) | (with_reducible refine Kd.C_drew ?_))); (case side2 => exact (Kd.R_reads' HO_8.out).2.1); rintro e w84 ⟨rfl, hb⟩; refine ⟨_, rfl, ?_⟩; have n0_ := Aside0.mk (Kd.R_below (by (with_reducible repeat (first | apply Kd.R_alloc | apply Kd.R_drewN | apply Kd.R_drew)); exact HO_5.out) hb); have n1_ := Aside0.mk (Kd.R_below (by (with_reducible repeat (first | apply Kd.R_alloc | apply Kd.R_drewN | apply Kd.R_drew)); exact HO_8.out) hb); have n2_ := Aside0.mk (blk_below (g := gb195) (o := .cells #[.string ((rd_T39 l1 x49_3).f0), .string ((rd_T39 l1 x49_3).f1)] 39 (0, 0)) (by (with_reducible repeat (first | refine blk_drewN ?_ _ | refine blk_drew ?_ | refine blk_alloc ?_ _)); exact BK195.out) hb); have n3_ := Aside0.mk (below_step (by repeat (first | (with_reducible first | exact HB.out | apply below_alloc | apply pw_below_drewN | apply below_drew1 | refine below_set ?_ GE195.out) | exact HB.out)) hb); clear HO_5; clear HO_8; clear BK195; clear HB; have HO_5 := n0_; have HO_8 := n1_; have BK195 := n2_; have HB := n3_; clear n0_ n1_ n2_ n3_; (try clear hb); (try clear hb2); (try clear hk); (try clear hi)))
                                        go_ret
                                        exact ⟨by first | rfl | (generalize ByteArray.toList _ = l_; cases l_ <;> rfl) | (simp [errW_none, errW_some] <;> rfl) | (simp only [← hji35]; first | rfl | (simp [errW_none, errW_some] <;> rfl)) | (simp [*, errW_none, errW_some] <;> rfl), by repeat (first | (with_reducible first | exact HB.out | apply below_alloc | apply pw_below_drewN | apply below_drew1 | refine below_set ?_ GE195.out) | exact HB.out)⟩
                                    · replace c61 := Bool.eq_false_iff.mpr c61
                                      subst c61
                                      have H1 : (pantrylaw03_FieldSets.l1 k4 l1 x5_2 t187 l1 (l1.length : Int) (wrap64 (x49_3 + 1))) = some r := by rw [if_neg (show ¬ (false = true) by decide)] at H; exact H
                                      clear H
                                      have H := H1
                                      clear H1
                                      have H' := Aside0.mk H
                                      clear H
                                      have hcz85_0 : wr.cell? ⟨gb195, 0, none⟩ = some (.string ((rd_T39 l1 x49_3).f0)) := (blk_cell BK195.out 0).trans rfl
                                      have hcz85_1 : wr.cell? ⟨gb195, 1, none⟩ = some (.string ((rd_T39 l1 x49_3).f1)) := (blk_cell BK195.out 1).trans rfl
                                      have hfz85_0 := blk_frozen BK195.out 0
                                      have hfz85_1 := blk_frozen BK195.out 1
                                      obtain ⟨Ao86, co86, eo86⟩ := Kd.R_slice HO_8.out
                                      subst eo86
                                      go_wp2_with (first | ((with_reducible refine gate_callee (f := 15) rfl ?_); refine goesL_ (some 78) rfl rfl Tryd.func15 (by kernel_rfl) rfl #[.slice Ao86 t187.length co86, .string ((rd_T39 l1 x49_3).f0)] rfl (by (try simp only [List.map_toArray, List.map_cons, List.map_nil]); first | done | rfl | (simp only [List.length_drop, List.length_take]; rfl)) ?_; (with_reducible refine (field_List_Get.calls k4 _ _ t187 ((rd_T39 l1 x49_3).f0) t204 t205 _ ?side1 ?side2 A60.out).mono ?_); (case side1 => repeat (first | exact (Kd.R_reads' HO_8.out).2.2 | (with_reducible refine Kd.C_alloc ?_ _) | (with_reducible refine Kd.C_drewN ?_ _) | (with_reducible refine Kd.C_drew ?_))); (case side2 => exact (Kd.R_reads' HO_8.out).2.1); rintro e w87 ⟨rfl, hb⟩; refine ⟨_, rfl, ?_⟩; have n0_ := Aside0.mk (Kd.R_below (by (with_reducible repeat (first | apply Kd.R_alloc | apply Kd.R_drewN | apply Kd.R_drew)); exact HO_5.out) hb); have n1_ := Aside0.mk (Kd.R_below (by (with_reducible repeat (first | apply Kd.R_alloc | apply Kd.R_drewN | apply Kd.R_drew)); exact HO_8.out) hb); have n2_ := Aside0.mk (blk_below (g := gb195) (o := .cells #[.string ((rd_T39 l1 x49_3).f0), .string ((rd_T39 l1 x49_3).f1)] 39 (0, 0)) (by (with_reducible repeat (first | refine blk_drewN ?_ _ | refine blk_drew ?_ | refine blk_alloc ?_ _)); exact BK195.out) hb); have n3_ := Aside0.mk (below_step (by repeat (first | (with_reducible first | exact HB.out | apply below_alloc | apply pw_below_drewN | apply below_drew1 | refine below_set ?_ GE195.out) | exact HB.out)) hb); clear HO_5; clear HO_8; clear BK195; clear HB; have HO_5 := n0_; have HO_8 := n1_; have BK195 := n2_; have HB := n3_; clear n0_ n1_ n2_ n3_; (try clear hb); (try clear hb2); (try clear hk); (try clear hi)))
                                      go_roundg k4
                                      case measure => have := HJ4.out; have := HK2.out; have := HK3.out; have := HK4.out; omega
                                      case rel => exact ⟨(wrap64 (x49_3 + 1)), (by first | rfl | (simp; done) | (simp [*]; done)), H', ⟨by have := HJ4.out; have := HK2.out; have := HK3.out; have := HK4.out; omega⟩, ⟨by (with_reducible repeat (first | apply Kd.R_alloc | apply Kd.R_drewN | apply Kd.R_drew)); exact HO_5.out⟩, ⟨by (with_reducible repeat (first | apply Kd.R_alloc | apply Kd.R_drewN | apply Kd.R_drew)); exact Kd.R_mono HO_8.out (fun _ hk => trivial)⟩, ⟨by repeat (first | (with_reducible first | exact HB.out | apply below_alloc | apply pw_below_drewN | apply below_drew1 | refine below_set ?_ GE195.out) | exact HB.out)⟩⟩
                            · rw [if_neg c37] at H
                              exact absurd H (by simp)
                          · rw [if_neg c36] at H
                            exact absurd H (by simp)
                        · rw [if_neg c34] at H
                          exact absurd H (by simp)
                      · rw [if_neg c33] at H
                        exact absurd H (by simp)
                    · rw [if_neg c32] at H
                      have c32b0 : decide (x49_3 < (l1.length : Int)) = false := decide_eq_false c32
                      clear c32
                      replace H := Option.bind_eq_some_iff.mp H
                      obtain ⟨t190, A880, H⟩ := H
                      replace H : ((pantryref03_Same.f k3 t190 x5_2).bind fun t193 => (some t193)) = some r := H
                      have A88 := Aside0.mk A880
                      clear A880
                      replace H := Option.bind_eq_some_iff.mp H
                      obtain ⟨t193, A890, H⟩ := H
                      replace H : (some t193) = some r := H
                      have A89 := Aside0.mk A890
                      clear A890
                      obtain rfl := Option.some.inj H
                      obtain ⟨Ao90, co90, eo90⟩ := Kd.R_slice HO_8.out
                      subst eo90
                      go_wp2_with (first | ((with_reducible refine gate_callee (f := 12) rfl ?_); refine goesL_ (some 102) rfl rfl Tryd.func12 (by kernel_rfl) rfl #[.slice Ao90 t187.length co90] rfl (by (try simp only [List.map_toArray, List.map_cons, List.map_nil]); first | done | rfl | (simp only [List.length_drop, List.length_take]; rfl)) ?_; (with_reducible refine (pantrymade_Fields.calls k3 _ _ t187 t190 _ ?side1 ?side2 A88.out).mono ?_); (case side1 => repeat (first | exact (Kd.R_reads' HO_8.out).2.2 | (with_reducible refine Kd.C_alloc ?_ _) | (with_reducible refine Kd.C_drewN ?_ _) | (with_reducible refine Kd.C_drew ?_))); (case side2 => exact (Kd.R_reads' HO_8.out).2.1); rintro e w91 ⟨v191, rfl, ho0, hb⟩; refine ⟨_, rfl, ?_⟩; have n0_ := Aside0.mk (Kd.R_elder' (by (with_reducible repeat (first | apply Kd.R_alloc | apply Kd.R_drewN | apply Kd.R_drew)); exact HO_5.out) (Kd.R_base ho0) hb); have n1_ := Aside0.mk (Kd.R_below (by (with_reducible repeat (first | apply Kd.R_alloc | apply Kd.R_drewN | apply Kd.R_drew)); exact HO_8.out) hb); have n2_ := Aside0.mk (Kd.R_lower (Kd.R_new' ho0 (Kd.R_lt (by (with_reducible repeat (first | apply Kd.R_alloc | apply Kd.R_drewN | apply Kd.R_drew)); exact HO_5.out))) (below_size (by repeat (first | (with_reducible first | exact HB.out | apply below_alloc | apply pw_below_drewN | apply below_drew1) | exact HB.out)))); have n3_ := Aside0.mk (below_step (by repeat (first | (with_reducible first | exact HB.out | apply below_alloc | apply pw_below_drewN | apply below_drew1) | exact HB.out)) hb); clear HO_5; clear HO_8; clear HB; have HO_5 := n0_; have HO_8 := n1_; have HO192 := n2_; have HB := n3_; clear n0_ n1_ n2_ n3_; (try clear hb); (try clear hb2); (try clear hk); (try clear hi); (try clear ho0); obtain ⟨Ao92, co92, eo92⟩ := Kd.R_slice HO192.out; subst eo92; obtain ⟨Ao93, co93, eo93⟩ := Kd.R_slice HO_5.out; subst eo93) | ((with_reducible refine gate_callee (f := 16) rfl ?_); refine goesL_ (some 104) rfl rfl Tryd.func16 (by kernel_rfl) rfl #[.slice Ao92 t190.length co92, .slice Ao93 x5_2.length co93] rfl (by (try simp only [List.map_toArray, List.map_cons, List.map_nil]); first | done | rfl | (simp only [List.length_drop, List.length_take]; rfl)) ?_; (with_reducible refine (pantryref03_Same.calls k3 _ _ t190 _ _ x5_2 t193 _ ?side1 ?side2 ?side3 ?side4 A89.out).mono ?_); (case side1 => repeat (first | exact (Kd.R_reads' HO192.out).2.2 | (with_reducible refine Kd.C_alloc ?_ _) | (with_reducible refine Kd.C_drewN ?_ _) | (with_reducible refine Kd.C_drew ?_))); (case side2 => exact (Kd.R_reads' HO192.out).2.1); (case side3 => repeat (first | exact (Kd.R_reads' HO_5.out).2.2 | (with_reducible refine Kd.C_alloc ?_ _) | (with_reducible refine Kd.C_drewN ?_ _) | (with_reducible refine Kd.C_drew ?_))); (case side4 => exact (Kd.R_reads' HO_5.out).2.1); rintro e w' ⟨rfl, ⟨nd, rfl⟩⟩; refine ⟨_, rfl, ?_⟩))
                      go_ret
                      exact ⟨by first | rfl | (generalize ByteArray.toList _ = l_; cases l_ <;> rfl) | (simp [errW_none, errW_some] <;> rfl) | (simp [*, errW_none, errW_some] <;> rfl), by repeat (first | (with_reducible first | exact HB.out | apply below_alloc | apply pw_below_drewN | apply below_drew1) | exact HB.out)⟩
  · replace c4 := Bool.eq_false_iff.mpr c4
    subst c4
    have H1 : (some false) = some r := by rw [if_neg (show ¬ (false = true) by decide)] at H; exact H
    clear H
    have H := H1
    clear H1
    obtain rfl := Option.some.inj H
    go_enter Tryd.func4, Tryd.ntmps4
    go_wp2_with (first | ((with_reducible refine gate_callee (f := 10) rfl ?_); refine goesL_ (some 16) rfl rfl Tryd.func10 (by kernel_rfl) rfl #[] rfl (by (try simp only [List.map_toArray, List.map_cons, List.map_nil]); first | done | rfl | (simp only [List.length_drop, List.length_take]; rfl)) ?_; (with_reducible refine (pantrylaw03_anchor.calls k  false _ A3.out).mono ?_); rintro e w94 ⟨rfl, hb⟩; refine ⟨_, rfl, ?_⟩; have n0_ := Aside0.mk (below_step (by repeat (first | (with_reducible first | exact HB.out | apply below_alloc | apply pw_below_drewN | apply below_drew1) | exact HB.out)) hb); clear HB; have HB := n0_; clear n0_; (try clear hb); (try clear hb2); (try clear hk); (try clear hi)))
    go_ret
    exact ⟨by first | rfl | (generalize ByteArray.toList _ = l_; cases l_ <;> rfl) | (simp [errW_none, errW_some] <;> rfl) | (simp [*, errW_none, errW_some] <;> rfl), by repeat (first | (with_reducible first | exact HB.out | apply below_alloc | apply pw_below_drewN | apply below_drew1) | exact HB.out)⟩

end Go.Proofs.YtmncflihmigdmaaDoor.PAll
