import Derived.Deep.Cut
import Derived.Deep.CutRange
import Derived.Deep.CutBlock
import Derived.Test.YtfcifigemiafgaaDoorPAllx0
import Derived.Test.YtfcifigemiafgaaDoorPAllx13
namespace Go.Proofs.YtfcifigemiafgaaDoor.PAll
open Go.RowKit Go.Proofs.YtfcifigemiafgaaDoorW.PrintWords Go.Proofs.YtfcifigemiafgaaDoorW.PrintLast Go.Proofs.YtfcifigemiafgaaDoorW.PrintMore
attribute [local go_sem] max2_int min2_int max_two min_two max_three min_three max_four min_four   -- for this text's walks alone
set_option linter.unusedVariables false
set_option linter.unusedSimpArgs false

/-! ### pantryref09_Words: function 15 -/
mutual
def pantryref09_Words.l0 : Nat → ByteArray → Int → Int → List ByteArray → List Int → Int → Int → Int → Option (List ByteArray)
 | 0, _, _, _, _, _, _, _, _ => none
 | k + 1, x0, x4, x5, x181000, x181001, x181002, x181003, x181004 => if x5 < (x0.size : Int) then ((pantryref09_comment.f x0 x5).bind fun t187 => (if t187 = true then (pantryref09_Words.l1 k x0 x4 x5 x181000 x181001 x181002 x181003 x181004) else (if 0 ≤ x5 then (if (bt x0 x5) = 10 then (pantryref09_Words.j2 k x0 (wrap64 (x4 + 1)) x5 x181000 x181001 x181002 x181003 x181004) else (pantryref09_Words.j2 k x0 x4 x5 x181000 x181001 x181002 x181003 x181004)) else (none)))) else (if x181000.length < 8796093022208 then (if x181001.length < 17592186044416 then (some (x181000 ++ [(⟨#[]⟩ : ByteArray)])) else (none)) else (none))
def pantryref09_Words.l1 : Nat → ByteArray → Int → Int → List ByteArray → List Int → Int → Int → Int → Option (List ByteArray)
 | 0, _, _, _, _, _, _, _, _ => none
 | k + 1, x0, x4, x5, x181000, x181001, x181002, x181003, x181004 => if x5 < (x0.size : Int) then (if 0 ≤ x5 then (if (bt x0 x5) = 10 then (pantryref09_Words.l0 k x0 x4 x5 x181000 x181001 x181002 x181003 x181004) else (pantryref09_Words.l1 k x0 x4 (wrap64 (x5 + 1)) x181000 x181001 x181002 x181003 x181004)) else (none)) else (pantryref09_Words.l0 k x0 x4 x5 x181000 x181001 x181002 x181003 x181004)
def pantryref09_Words.j2 : Nat → ByteArray → Int → Int → List ByteArray → List Int → Int → Int → Int → Option (List ByteArray)
 | 0, _, _, _, _, _, _, _, _ => none
 | k + 1, x0, x4, x5, x181000, x181001, x181002, x181003, x181004 => if 0 ≤ x5 then (if x5 < (x0.size : Int) then ((pantryref09_plain.f (bt x0 x5)).bind fun t188 => (if t188 = true then (pantryref09_Words.l2 k x0 x4 x5 x5 x181000 x181001 x181002 x181003 x181004) else (if (bt x0 x5) = 123 then (if x5 ≤ (wrap64 (x5 + 1)) then (if (wrap64 (x5 + 1)) ≤ (x0.size : Int) then (if x181000.length < 8796093022208 then (if x181001.length < 17592186044416 then (pantryref09_Words.l0 k x0 x4 (wrap64 (x5 + 1)) (x181000 ++ [x0.extract (x5 : Int).toNat ((wrap64 (x5 + 1)) : Int).toNat]) (x181001 ++ [x4]) x181002 x181003 x181004) else (none)) else (none)) else (none)) else (none)) else (if (bt x0 x5) = 125 then (if x5 ≤ (wrap64 (x5 + 1)) then (if (wrap64 (x5 + 1)) ≤ (x0.size : Int) then (if x181000.length < 8796093022208 then (if x181001.length < 17592186044416 then (pantryref09_Words.l0 k x0 x4 (wrap64 (x5 + 1)) (x181000 ++ [x0.extract (x5 : Int).toNat ((wrap64 (x5 + 1)) : Int).toNat]) (x181001 ++ [x4]) x181002 x181003 x181004) else (none)) else (none)) else (none)) else (none)) else (if (bt x0 x5) = 59 then (if x5 ≤ (wrap64 (x5 + 1)) then (if (wrap64 (x5 + 1)) ≤ (x0.size : Int) then (if x181000.length < 8796093022208 then (if x181001.length < 17592186044416 then (pantryref09_Words.l0 k x0 x4 (wrap64 (x5 + 1)) (x181000 ++ [x0.extract (x5 : Int).toNat ((wrap64 (x5 + 1)) : Int).toNat]) (x181001 ++ [x4]) x181002 x181003 x181004) else (none)) else (none)) else (none)) else (none)) else (pantryref09_Words.l0 k x0 x4 (wrap64 (x5 + 1)) x181000 x181001 x181002 x181003 x181004)))))) else (none)) else (none)
def pantryref09_Words.l2 : Nat → ByteArray → Int → Int → Int → List ByteArray → List Int → Int → Int → Int → Option (List ByteArray)
 | 0, _, _, _, _, _, _, _, _, _ => none
 | k + 1, x0, x4, x5, x6, x181000, x181001, x181002, x181003, x181004 => if x5 < (x0.size : Int) then (if 0 ≤ x5 then ((pantryref09_plain.f (bt x0 x5)).bind fun t189 => (if t189 = true then ((pantryref09_comment.f x0 x5).bind fun t190 => (if t190 = true then (if 0 ≤ x6 then (if x6 ≤ x5 then (if x5 ≤ (x0.size : Int) then (if x181000.length < 8796093022208 then (if x181001.length < 17592186044416 then (pantryref09_Words.l0 k x0 x4 x5 (x181000 ++ [x0.extract (x6 : Int).toNat (x5 : Int).toNat]) (x181001 ++ [x4]) x181002 x181003 x181004) else (none)) else (none)) else (none)) else (none)) else (none)) else (pantryref09_Words.l2 k x0 x4 (wrap64 (x5 + 1)) x6 x181000 x181001 x181002 x181003 x181004))) else (if 0 ≤ x6 then (if x6 ≤ x5 then (if x5 ≤ (x0.size : Int) then (if x181000.length < 8796093022208 then (if x181001.length < 17592186044416 then (pantryref09_Words.l0 k x0 x4 x5 (x181000 ++ [x0.extract (x6 : Int).toNat (x5 : Int).toNat]) (x181001 ++ [x4]) x181002 x181003 x181004) else (none)) else (none)) else (none)) else (none)) else (none)))) else (none)) else (if 0 ≤ x6 then (if x6 ≤ x5 then (if x5 ≤ (x0.size : Int) then (if x181000.length < 8796093022208 then (if x181001.length < 17592186044416 then (pantryref09_Words.l0 k x0 x4 x5 (x181000 ++ [x0.extract (x6 : Int).toNat (x5 : Int).toNat]) (x181001 ++ [x4]) x181002 x181003 x181004) else (none)) else (none)) else (none)) else (none)) else (none))
end
def pantryref09_Words.f (k : Nat) (a0 : ByteArray) : Option (List ByteArray) := pantryref09_Words.l0 k a0 1 0 ([] : List ByteArray) ([] : List Int) 0 0 0
theorem pantryref09_Words.mono_l : ∀ k, (∀ y0 y1 y2 y3 y4 y5 y6 y7, LeO (pantryref09_Words.l0 k y0 y1 y2 y3 y4 y5 y6 y7) (pantryref09_Words.l0 (k + 1) y0 y1 y2 y3 y4 y5 y6 y7)) ∧ (∀ y0 y1 y2 y3 y4 y5 y6 y7, LeO (pantryref09_Words.l1 k y0 y1 y2 y3 y4 y5 y6 y7) (pantryref09_Words.l1 (k + 1) y0 y1 y2 y3 y4 y5 y6 y7)) ∧ (∀ y0 y1 y2 y3 y4 y5 y6 y7, LeO (pantryref09_Words.j2 k y0 y1 y2 y3 y4 y5 y6 y7) (pantryref09_Words.j2 (k + 1) y0 y1 y2 y3 y4 y5 y6 y7)) ∧ (∀ y0 y1 y2 y3 y4 y5 y6 y7 y8, LeO (pantryref09_Words.l2 k y0 y1 y2 y3 y4 y5 y6 y7 y8) (pantryref09_Words.l2 (k + 1) y0 y1 y2 y3 y4 y5 y6 y7 y8))
 | 0 => ⟨fun _ _ _ _ _ _ _ _ r h => by simp [pantryref09_Words.l0] at h, fun _ _ _ _ _ _ _ _ r h => by simp [pantryref09_Words.l1] at h, fun _ _ _ _ _ _ _ _ r h => by simp [pantryref09_Words.j2] at h, fun _ _ _ _ _ _ _ _ _ r h => by simp [pantryref09_Words.l2] at h⟩
 | k + 1 => by
  obtain ⟨ih0, ih1, ih2, ih3⟩ := pantryref09_Words.mono_l k
  refine ⟨?_, ?_, ?_, ?_⟩
  ·
   intro y0 y1 y2 y3 y4 y5 y6 y7
   unfold pantryref09_Words.l0
   repeat' (with_reducible first | exact ih0 _ _ _ _ _ _ _ _ | exact ih1 _ _ _ _ _ _ _ _ | exact ih2 _ _ _ _ _ _ _ _ | exact ih3 _ _ _ _ _ _ _ _ _ | exact lR_ | refine LeO.ite ?_ ?_ | refine LeO.bind ?_ (fun _ => ?_))
  ·
   intro y0 y1 y2 y3 y4 y5 y6 y7
   unfold pantryref09_Words.l1
   repeat' (with_reducible first | exact ih0 _ _ _ _ _ _ _ _ | exact ih1 _ _ _ _ _ _ _ _ | exact ih2 _ _ _ _ _ _ _ _ | exact ih3 _ _ _ _ _ _ _ _ _ | exact lR_ | refine LeO.ite ?_ ?_ | refine LeO.bind ?_ (fun _ => ?_))
  ·
   intro y0 y1 y2 y3 y4 y5 y6 y7
   unfold pantryref09_Words.j2
   repeat' (with_reducible first | exact ih0 _ _ _ _ _ _ _ _ | exact ih1 _ _ _ _ _ _ _ _ | exact ih2 _ _ _ _ _ _ _ _ | exact ih3 _ _ _ _ _ _ _ _ _ | exact lR_ | refine LeO.ite ?_ ?_ | refine LeO.bind ?_ (fun _ => ?_))
  ·
   intro y0 y1 y2 y3 y4 y5 y6 y7 y8
   unfold pantryref09_Words.l2
   repeat' (with_reducible first | exact ih0 _ _ _ _ _ _ _ _ | exact ih1 _ _ _ _ _ _ _ _ | exact ih2 _ _ _ _ _ _ _ _ | exact ih3 _ _ _ _ _ _ _ _ _ | exact lR_ | refine LeO.ite ?_ ?_ | refine LeO.bind ?_ (fun _ => ?_))
theorem pantryref09_Words.mono : ∀ a0 k, LeO (pantryref09_Words.f k a0) (pantryref09_Words.f (k + 1) a0) := by
 intro a0 k
 obtain ⟨ih0, ih1, ih2, ih3⟩ := pantryref09_Words.mono_l k
 unfold pantryref09_Words.f
 repeat' (with_reducible first | exact ih0 _ _ _ _ _ _ _ _ | exact ih1 _ _ _ _ _ _ _ _ | exact ih2 _ _ _ _ _ _ _ _ | exact ih3 _ _ _ _ _ _ _ _ _ | exact lR_ | refine LeO.ite ?_ ?_ | refine LeO.bind ?_ (fun _ => ?_))
def pantryref09_Words.T14 : Bool × List (List Nat × List Nat) := (true, [([], []), ([], []), ([1], [1]), ([2], [2]), ([3], [3]), ([], []), ([], []), ([], []), ([5, 6, 7], [5, 6, 7]), ([8], [8]), ([4, 9], [4, 9]), ([0, 0, 1, 2, 3, 4, 5, 6, 7, 8, 9, 10], [0]), ([11, 0, 1, 2, 3, 4, 5, 6, 7, 8, 9, 10], [11]), ([12, 10, 10, 0, 1, 2, 3, 4, 5, 6, 7, 8, 9, 10], [10, 12])])
def pantryref09_Words.B14 : List Nat := [0, 0, 2, 6, 14, 0, 0, 0, 224, 480, 1022, 2047, 4095, 8191]
theorem pantryref09_Words.tab14 : rtab .any (opsOf Tryd.f15 14) = pantryref09_Words.T14 := by kernel_rfl
theorem pantryref09_Words.bits14 : waitsOk pantryref09_Words.T14.2 pantryref09_Words.B14 = true := by kernel_rfl
def pantryref09_Words.T17 : Bool × List (List Nat × List Nat) := (true, [([], []), ([], []), ([1], [1]), ([2], [2]), ([3], [3]), ([], []), ([], []), ([], []), ([7], [7]), ([5, 6, 8], [5, 6, 8]), ([9], [9]), ([4, 10], [4, 10]), ([0, 0, 1, 2, 3, 4, 5, 6, 7, 8, 9, 10, 11], [0]), ([12, 0, 1, 2, 3, 4, 5, 6, 7, 8, 9, 10, 11], [12]), ([13, 11, 11, 0, 1, 2, 3, 4, 5, 6, 7, 8, 9, 10, 11], [11, 13])])
def pantryref09_Words.B17 : List Nat := [0, 0, 2, 6, 14, 0, 0, 0, 128, 480, 992, 2046, 4095, 8191, 16383]
theorem pantryref09_Words.tab17 : rtab .any (opsOf Tryd.f15 17) = pantryref09_Words.T17 := by kernel_rfl
theorem pantryref09_Words.bits17 : waitsOk pantryref09_Words.T17.2 pantryref09_Words.B17 = true := by kernel_rfl
set_option maxHeartbeats 8000000 in
set_option maxRecDepth 100000 in
theorem pantryref09_Words.calls (k : Nat) (a0 : ByteArray) (r : List ByteArray) (w : World) (h : pantryref09_Words.f k a0 = some r) :
  Calls Tryd.prog 15 #[.string a0] w fun e w' => ∃ (g0_ : Nat) (v0_ : Value), e = .returned (.pointer (some ⟨g0_, 0, none⟩)) ∧ w'.cell? ⟨g0_, 0, none⟩ = some v0_ ∧ Kd.R Kd.string 9 w' w.heap.size (fun _ => True) v0_ r ∧ Below w.heap.size w w' := by
 have hu45 := Tryd.underlying45
 have HB := Aside0.mk (Below.refl w.heap.size w)
 have H : (pantryref09_Words.l0 k a0 1 0 ([] : List ByteArray) ([] : List Int) 0 0 0) = some r := h
 clear h
 have H' := Aside0.mk H
 clear H
 go_enter Tryd.func15, Tryd.ntmps15
 go_wp2_with (first | ((with_reducible refine gate_dst (N := 8) rfl ?_); refine box_event ?hg (N := 8) ?hd (cs := #[.slice none 0 0, .slice none 0 0, .int .i64 0, .int .i64 0, .int .i64 0]) (t := 45) ?hr ?_; (case hd | hg => rfl); (case hr => exact S1_); intro gb180 hg w2 hbox hb; have BK180 := Aside0.mk (hbox); have GW180 := Aside0.mk ((Z1_ : w.heap.size ≤ gb180)); have GE180 := Aside0.mk ((Z1_ : w.heap.size ≤ gb180)); replace HB := y1_ hb; clear hb hbox hg))
 go_loopg [4, 5] k (fun kq v4 v5 w' => ∃ (x4_1 : Int) (x5_1 : Int) (x181000_1 : List ByteArray) (x181001_1 : List Int) (u181000 : Value) (u181001 : Value), v4 = .int .i64 x4_1 ∧ v5 = .int .i64 x5_1 ∧ Aside0 (pantryref09_Words.l0 kq a0 x4_1 x5_1 x181000_1 x181001_1 0 0 0 = some r) ∧ Aside0 (kq ≤ k) ∧ Aside0 (Kd.R Kd.string 9 w' w.heap.size (fun _ => True) u181000 x181000_1) ∧ Aside0 (Kd.R (Kd.int .i64) 3 w' w.heap.size (fun _ => True) u181001 x181001_1) ∧ Aside0 (w'.heap[gb180]? = some (.cells #[u181000, u181001, .int .i64 0, .int .i64 0, .int .i64 0] 45 (0, 0))) ∧ Aside0 (Below w.heap.size w w'))
 case atStart => exact ⟨(1), (0), (([] : List ByteArray)), (([] : List Int)), (.slice none 0 0), (.slice none 0 0), E3_, E3_, H', ⟨Nat.le_refl _⟩, ⟨by first | exact Kd.R_nil _ _ _ _ _ | exact Kd.N_nil _ _ _ _ _ | exact Kd.V_nil _ _ _ _ _ | exact Kd.Q_nil _ _ _ _ _ | exact Kd.S_nil _ _ _ _ _⟩, ⟨by first | exact Kd.R_nil _ _ _ _ _ | exact Kd.N_nil _ _ _ _ _ | exact Kd.V_nil _ _ _ _ _ | exact Kd.Q_nil _ _ _ _ _ | exact Kd.S_nil _ _ _ _ _⟩, ⟨B1_ BK180.out⟩, ⟨W2_⟩⟩
 case round =>
  clear H'
  obtain ⟨x4_1, x5_1, x181000_1, x181001_1, u181000, u181001, rfl, rfl, HA, HK1, HO_181000, HO_181001, BK180, HB⟩ := hrel
  cases gk with
  | zero => exact absurd HA.out (by simp [pantryref09_Words.l0])
  | succ k1 =>
   have H := HA.out
   clear HA
   simp only [pantryref09_Words.l0] at H
   by_cases c3 : x5_1 < (a0.size : Int)
   ·
    rw [if_pos c3] at H
    have c3b0 : decide (x5_1 < (a0.size : Int)) = true := decide_eq_true c3
    clear c3
    obtain ⟨t187, A4, H⟩ := bS_ H
    try dsimp only at H
    by_cases c5 : t187 = true
    ·
     subst c5
     rw [if_pos rfl] at H
     have H' := Aside0.mk H
     clear H
     go_wp2_with (first | ((with_reducible refine gate_callee (f := 20) rfl ?_); refine goesL_ (some 15) rfl rfl Tryd.func20 (by kernel_rfl) rfl #[.string a0, .int .i64 x5_1] rfl T1_ ?_; (with_reducible refine (pantryref09_comment.calls a0 x5_1 true _ A4.out).mono ?_); rintro e w' ⟨rfl, ⟨nd, rfl⟩⟩; refine ⟨_, rfl, ?_⟩))
     go_loopg [5] k1 (fun kq v5 w' => ∃ (x5_2 : Int), v5 = .int .i64 x5_2 ∧ Aside0 (pantryref09_Words.l1 kq a0 x4_1 x5_2 x181000_1 x181001_1 0 0 0 = some r) ∧ Aside0 (kq ≤ k1) ∧ Aside0 (Kd.R Kd.string 9 w' w.heap.size (fun _ => True) u181000 x181000_1) ∧ Aside0 (Kd.R (Kd.int .i64) 3 w' w.heap.size (fun _ => True) u181001 x181001_1) ∧ Aside0 (w'.heap[gb180]? = some (.cells #[u181000, u181001, .int .i64 0, .int .i64 0, .int .i64 0] 45 (0, 0))) ∧ Aside0 (Below w.heap.size w w'))
     case atStart => exact ⟨(x5_1), E3_, H', ⟨Nat.le_refl _⟩, ⟨R1_ HO_181000.out⟩, ⟨R1_ HO_181001.out⟩, ⟨B1_ BK180.out⟩, ⟨W2_⟩⟩
     case round =>
      clear H'
      (try clear c3); (try clear c3b0); (try clear c5)
      obtain ⟨x5_2, rfl, HA, HK2, HO_181000, HO_181001, BK180, HB⟩ := hrel
      cases gk with
      | zero => exact absurd HA.out (by simp [pantryref09_Words.l1])
      | succ k2 =>
       have H := HA.out
       clear HA
       simp only [pantryref09_Words.l1] at H
       by_cases c6 : x5_2 < (a0.size : Int)
       ·
        rw [if_pos c6] at H
        have c6b0 : decide (x5_2 < (a0.size : Int)) = true := decide_eq_true c6
        clear c6
        by_cases c7 : 0 ≤ x5_2
        ·
         rw [if_pos c7] at H
         have c7b0 : decide (0 ≤ x5_2) = true := decide_eq_true c7
         clear c7
         by_cases c9 : (bt a0 x5_2) = 10
         ·
          rw [if_pos c9] at H
          have c9b0 : ((bt a0 x5_2) == 10) = true := beq_iff_eq.mpr c9
          have c9b1 : ((bt a0 x5_2) != 10) = false := bne_eq_false_iff_eq.mpr c9
          clear c9
          have H' := Aside0.mk H
          clear H
          have p8 : 0 ≤ (x5_2 : Int) := oA_
          have q8 : x5_2 < (a0.size : Int) := oA_
          have hx8 := bt_at a0 x5_2
          replace p8 := eq_true p8
          replace q8 := eq_true q8
          go_wp2
          go_roundg k2
          case measure => have := HK1.out; have := HK2.out; omega
          case rel => exact ⟨(x4_1), (x5_2), (x181000_1), (x181001_1), (u181000), (u181001), E3_, E3_, H', ⟨by have := HK1.out; have := HK2.out; omega⟩, ⟨R1_ HO_181000.out⟩, ⟨R1_ HO_181001.out⟩, ⟨B1_ BK180.out⟩, ⟨W2_⟩⟩
         ·
          rw [if_neg c9] at H
          have c9b0 : ((bt a0 x5_2) == 10) = false := beq_eq_false_iff_ne.mpr c9
          have c9b1 : ((bt a0 x5_2) != 10) = true := bne_iff_ne.mpr c9
          have H' := Aside0.mk H
          clear H
          have p8 : 0 ≤ (x5_2 : Int) := oA_
          have q8 : x5_2 < (a0.size : Int) := oA_
          have hx8 := bt_at a0 x5_2
          replace p8 := eq_true p8
          replace q8 := eq_true q8
          go_wp2
          go_roundg k2
          case measure => have := HK1.out; have := HK2.out; omega
          case rel => exact ⟨(wrap64 (x5_2 + 1)), E3_, H', ⟨by have := HK1.out; have := HK2.out; omega⟩, ⟨R1_ HO_181000.out⟩, ⟨R1_ HO_181001.out⟩, ⟨B1_ BK180.out⟩, ⟨W2_⟩⟩
        ·
         rw [if_neg c7] at H
         exact absurd H (by simp)
       ·
        rw [if_neg c6] at H
        have c6b0 : decide (x5_2 < (a0.size : Int)) = false := decide_eq_false c6
        clear c6
        have H' := Aside0.mk H
        clear H
        go_wp2
        go_roundg k2
        case measure => have := HK1.out; have := HK2.out; omega
        case rel => exact ⟨(x4_1), (x5_2), (x181000_1), (x181001_1), (u181000), (u181001), E3_, E3_, H', ⟨by have := HK1.out; have := HK2.out; omega⟩, ⟨R1_ HO_181000.out⟩, ⟨R1_ HO_181001.out⟩, ⟨B1_ BK180.out⟩, ⟨W2_⟩⟩
    ·
     replace c5 := Bool.eq_false_iff.mpr c5
     subst c5
     rw [if_neg (show ¬ (false = true) by decide)] at H
     by_cases c10 : 0 ≤ x5_1
     ·
      rw [if_pos c10] at H
      have c10b0 : decide (0 ≤ x5_1) = true := decide_eq_true c10
      clear c10
      have HC12 := Aside0.mk H
      clear H
      go_upto_if 31 with (first | ((with_reducible refine gate_callee (f := 20) rfl ?_); refine goesL_ (some 15) rfl rfl Tryd.func20 (by kernel_rfl) rfl #[.string a0, .int .i64 x5_1] rfl T1_ ?_; (with_reducible refine (pantryref09_comment.calls a0 x5_1 false _ A4.out).mono ?_); rintro e w' ⟨rfl, ⟨nd, rfl⟩⟩; refine ⟨_, rfl, ?_⟩; have p11 : 0 ≤ (x5_1 : Int) := oA_; have q11 : x5_1 < (a0.size : Int) := oA_; have hx11 := bt_at a0 x5_1; replace p11 := eq_true p11; replace q11 := eq_true q11))
      (try simp only [Act.put, sA_, sZ_, sS_])
      go_cut [4] (fun v4 wc => ∃ (kq : Nat) (x4_11 : Int), v4 = .int .i64 x4_11 ∧ Aside0 (pantryref09_Words.j2 kq a0 x4_11 x5_1 x181000_1 x181001_1 0 0 0 = some r) ∧ Aside0 (kq ≤ k1) ∧ Aside0 (Kd.R Kd.string 9 wc w.heap.size (fun _ => True) u181000 x181000_1) ∧ Aside0 (Kd.R (Kd.int .i64) 3 wc w.heap.size (fun _ => True) u181001 x181001_1) ∧ Aside0 (wc.heap[gb180]? = some (.cells #[u181000, u181001, .int .i64 0, .int .i64 0, .int .i64 0] 45 (0, 0))) ∧ Aside0 (Below w.heap.size w wc))
      case first =>
       have H := HC12.out
       clear HC12
       by_cases c13 : (bt a0 x5_1) = 10
       ·
        rw [if_pos c13] at H
        have c13b0 : ((bt a0 x5_1) == 10) = true := beq_iff_eq.mpr c13
        have c13b1 : ((bt a0 x5_1) != 10) = false := bne_eq_false_iff_eq.mpr c13
        clear c13
        (first | rw [c13b0] | (simp only [i64_w, i32_w]; rw [c13b0]) | skip)
        have H' := Aside0.mk H
        clear H
        go_wp2
        go_meet
        case rel => exact ⟨_, (wrap64 (x4_1 + 1)), E3_, H', ⟨by have := HK1.out; first | omega | exact Nat.le_refl _⟩, ⟨R1_ HO_181000.out⟩, ⟨R1_ HO_181001.out⟩, ⟨B1_ BK180.out⟩, ⟨W2_⟩⟩
       ·
        rw [if_neg c13] at H
        have c13b0 : ((bt a0 x5_1) == 10) = false := beq_eq_false_iff_ne.mpr c13
        have c13b1 : ((bt a0 x5_1) != 10) = true := bne_iff_ne.mpr c13
        (first | rw [c13b0] | (simp only [i64_w, i32_w]; rw [c13b0]) | skip)
        have H' := Aside0.mk H
        clear H
        go_wp2
        go_meet
        case rel => exact ⟨_, (x4_1), E3_, H', ⟨by have := HK1.out; first | omega | exact Nat.le_refl _⟩, ⟨R1_ HO_181000.out⟩, ⟨R1_ HO_181001.out⟩, ⟨B1_ BK180.out⟩, ⟨W2_⟩⟩
      case rest =>
       clear HC12
       (try clear c3); (try clear c3b0); (try clear c5); (try clear c6); (try clear c6b0); (try clear c7); (try clear c7b0); (try clear p8); (try clear q8); (try clear hx8); (try clear c9); (try clear c9b0); (try clear c9b1); (try clear c10); (try clear c10b0); (try clear p11); (try clear q11); (try clear hx11); (try clear c13); (try clear c13b0); (try clear c13b1); (try clear p11); (try clear p8); (try clear q11); (try clear q8)
       obtain ⟨kq, x4_11, rfl, HA, HJ11, HO_181000, HO_181001, BK180, HB⟩ := hcut
       cases kq with
       | zero => exact absurd HA.out (by simp [pantryref09_Words.j2])
       | succ kj11 =>
        have H := HA.out
        clear HA
        simp only [pantryref09_Words.j2] at H
        by_cases c14 : 0 ≤ x5_1
        ·
         rw [if_pos c14] at H
         have c14b0 : decide (0 ≤ x5_1) = true := decide_eq_true c14
         clear c14
         by_cases c15 : x5_1 < (a0.size : Int)
         ·
          rw [if_pos c15] at H
          have c15b0 : decide (x5_1 < (a0.size : Int)) = true := decide_eq_true c15
          clear c15
          obtain ⟨t188, A17, H⟩ := bS_ H
          try dsimp only at H
          by_cases c18 : t188 = true
          ·
           subst c18
           rw [if_pos rfl] at H
           have H' := Aside0.mk H
           clear H
           have p16 : 0 ≤ (x5_1 : Int) := oA_
           have q16 : x5_1 < (a0.size : Int) := oA_
           have hx16 := bt_at a0 x5_1
           replace p16 := eq_true p16
           replace q16 := eq_true q16
           go_wp2_with (first | ((with_reducible refine gate_callee (f := 21) rfl ?_); refine goesL_ (some 37) rfl rfl Tryd.func21 (by kernel_rfl) rfl #[.int .u8 (bt a0 x5_1)] rfl T1_ ?_; (with_reducible refine (pantryref09_plain.calls (bt a0 x5_1) true _ A17.out).mono ?_); rintro e w' ⟨rfl, ⟨nd, rfl⟩⟩; refine ⟨_, rfl, ?_⟩))
           go_loopg [5] kj11 (fun kq v5 w' => ∃ (x5_3 : Int), v5 = .int .i64 x5_3 ∧ Aside0 (pantryref09_Words.l2 kq a0 x4_11 x5_3 x5_1 x181000_1 x181001_1 0 0 0 = some r) ∧ Aside0 (kq ≤ kj11) ∧ Aside0 (Kd.R Kd.string 9 w' w.heap.size (fun _ => True) u181000 x181000_1) ∧ Aside0 (Kd.R (Kd.int .i64) 3 w' w.heap.size (fun _ => True) u181001 x181001_1) ∧ Aside0 (w'.heap[gb180]? = some (.cells #[u181000, u181001, .int .i64 0, .int .i64 0, .int .i64 0] 45 (0, 0))) ∧ Aside0 (Below w.heap.size w w'))
           case atStart => exact ⟨(x5_1), E3_, H', ⟨Nat.le_refl _⟩, ⟨R1_ HO_181000.out⟩, ⟨R1_ HO_181001.out⟩, ⟨B1_ BK180.out⟩, ⟨W2_⟩⟩
           case round =>
            clear H'
            (try clear c3); (try clear c3b0); (try clear c5); (try clear c6); (try clear c6b0); (try clear c7); (try clear c7b0); (try clear p8); (try clear q8); (try clear hx8); (try clear c9); (try clear c9b0); (try clear c9b1); (try clear c10); (try clear c10b0); (try clear p11); (try clear q11); (try clear hx11); (try clear c13); (try clear c13b0); (try clear c13b1); (try clear c14); (try clear c14b0); (try clear c15); (try clear c15b0); (try clear p16); (try clear q16); (try clear hx16); (try clear c18); (try clear p11); (try clear p16); (try clear p8); (try clear q11); (try clear q16); (try clear q8)
            obtain ⟨x5_3, rfl, HA, HK3, HO_181000, HO_181001, BK180, HB⟩ := hrel
            cases gk with
            | zero => exact absurd HA.out (by simp [pantryref09_Words.l2])
            | succ k3 =>
             have H := HA.out
             clear HA
             simp only [pantryref09_Words.l2] at H
             by_cases c19 : x5_3 < (a0.size : Int)
             ·
              rw [if_pos c19] at H
              have c19b0 : decide (x5_3 < (a0.size : Int)) = true := decide_eq_true c19
              clear c19
              by_cases c20 : 0 ≤ x5_3
              ·
               rw [if_pos c20] at H
               have c20b0 : decide (0 ≤ x5_3) = true := decide_eq_true c20
               clear c20
               obtain ⟨t189, A22, H⟩ := bS_ H
               try dsimp only at H
               by_cases c23 : t189 = true
               ·
                subst c23
                rw [if_pos rfl] at H
                obtain ⟨t190, A24, H⟩ := bS_ H
                try dsimp only at H
                by_cases c25 : t190 = true
                ·
                 subst c25
                 rw [if_pos rfl] at H
                 by_cases c26 : 0 ≤ x5_1
                 ·
                  rw [if_pos c26] at H
                  have c26b0 := eq_true c26
                  have c26b1 : decide (0 ≤ x5_1) = true := decide_eq_true c26
                  clear c26
                  by_cases c27 : x5_1 ≤ x5_3
                  ·
                   rw [if_pos c27] at H
                   have c27b0 := eq_true c27
                   have c27b1 : decide (x5_1 ≤ x5_3) = true := decide_eq_true c27
                   clear c27
                   by_cases c28 : x5_3 ≤ (a0.size : Int)
                   ·
                    rw [if_pos c28] at H
                    have c28b0 := eq_true c28
                    have c28b1 : decide (x5_3 ≤ (a0.size : Int)) = true := decide_eq_true c28
                    clear c28
                    by_cases c29 : x181000_1.length < 8796093022208
                    ·
                     rw [if_pos c29] at H
                     have LMc29 := Aside0.mk c29
                     clear c29
                     obtain ⟨y191, hy191⟩ : ∃ y_ : List ByteArray, y_ = (x181000_1 ++ [a0.extract (x5_1 : Int).toNat (x5_3 : Int).toNat]) := ⟨_, rfl⟩
                     replace H : (if x181001_1.length < 17592186044416 then (pantryref09_Words.l0 k3 a0 x4_11 x5_3 y191 (x181001_1 ++ [x4_11]) 0 0 0) else (none)) = some r := by first | (rw [hy191]; with_reducible exact H) | (have H2_ := (Option.bind_some _ _).symm.trans H; rw [hy191]; with_reducible exact H2_) | (have H2_ := (Option.bind_some _ _).symm.trans H; with_reducible exact H2_) | with_reducible exact H | (rw [hy191]; exact H) | exact H
                     have Ny191 := Aside0.mk hy191
                     clear hy191
                     by_cases c30 : x181001_1.length < 17592186044416
                     ·
                      rw [if_pos c30] at H
                      have LMc30 := Aside0.mk c30
                      clear c30
                      obtain ⟨y194, hy194⟩ : ∃ y_ : List Int, y_ = (x181001_1 ++ [x4_11]) := ⟨_, rfl⟩
                      replace H : (pantryref09_Words.l0 k3 a0 x4_11 x5_3 y191 y194 0 0 0) = some r := by first | (rw [hy194]; with_reducible exact H) | (have H2_ := (Option.bind_some _ _).symm.trans H; rw [hy194]; with_reducible exact H2_) | (have H2_ := (Option.bind_some _ _).symm.trans H; with_reducible exact H2_) | with_reducible exact H | (rw [hy194]; exact H) | exact H
                      have Ny194 := Aside0.mk hy194
                      clear hy194
                      have H' := Aside0.mk H
                      clear H
                      have p21 : 0 ≤ (x5_3 : Int) := oA_
                      have q21 : x5_3 < (a0.size : Int) := oA_
                      have hx21 := bt_at a0 x5_3
                      replace p21 := eq_true p21
                      replace q21 := eq_true q21
                      try go_wp2_with (first | (go_at_call 21; (with_reducible refine (pantryref09_plain.calls (bt a0 x5_3) true _ A22.out).mono ?_); rintro e w' ⟨rfl, ⟨nd, rfl⟩⟩; (try (rw [drewN_self wr]; generalize hq_ : World.drewN wr _ = wr; have n0_ : Aside0 (Kd.R Kd.string 9 wr w.heap.size (fun _ => True) u181000 x181000_1) := ⟨by rw [← hq_]; exact (R1_ HO_181000.out)⟩; have n1_ : Aside0 (Kd.R (Kd.int .i64) 3 wr w.heap.size (fun _ => True) u181001 x181001_1) := ⟨by rw [← hq_]; exact (R1_ HO_181001.out)⟩; have n2_ : Aside0 (wr.heap[gb180]? = some (.cells #[u181000, u181001, .int .i64 0, .int .i64 0, .int .i64 0] 45 (0, 0))) := ⟨by rw [← hq_]; exact (B1_ BK180.out)⟩; have n3_ : Aside0 (Below w.heap.size w wr) := ⟨by rw [← hq_]; exact W2_⟩; clear HO_181000 HO_181001 BK180 HB hq_; have HO_181000 := n0_; have HO_181001 := n1_; have BK180 := n2_; have HB := n3_; clear n0_ n1_ n2_ n3_))) | (go_at_call 20; (with_reducible refine (pantryref09_comment.calls a0 x5_3 true _ A24.out).mono ?_); rintro e w' ⟨rfl, ⟨nd, rfl⟩⟩; (try (rw [drewN_self wr]; generalize hq_ : World.drewN wr _ = wr; have n0_ : Aside0 (Kd.R Kd.string 9 wr w.heap.size (fun _ => True) u181000 x181000_1) := ⟨by rw [← hq_]; exact (R1_ HO_181000.out)⟩; have n1_ : Aside0 (Kd.R (Kd.int .i64) 3 wr w.heap.size (fun _ => True) u181001 x181001_1) := ⟨by rw [← hq_]; exact (R1_ HO_181001.out)⟩; have n2_ : Aside0 (wr.heap[gb180]? = some (.cells #[u181000, u181001, .int .i64 0, .int .i64 0, .int .i64 0] 45 (0, 0))) := ⟨by rw [← hq_]; exact (B1_ BK180.out)⟩; have n3_ : Aside0 (Below w.heap.size w wr) := ⟨by rw [← hq_]; exact W2_⟩; clear HO_181000 HO_181001 BK180 HB hq_; have HO_181000 := n0_; have HO_181001 := n1_; have BK180 := n2_; have HB := n3_; clear n0_ n1_ n2_ n3_))))
                      have n0_ := Aside0.mk (kD_ HO_181000.out)
                      have n1_ := Aside0.mk (kD_ HO_181001.out)
                      have n2_ := Aside0.mk (bD_ BK180.out)
                      have n3_ := Aside0.mk (zD_ HB.out)
                      clear HO_181000
                      clear HO_181001
                      clear BK180
                      clear HB
                      have HO_181000 := n0_
                      have HO_181001 := n1_
                      have BK180 := n2_
                      have HB := n3_
                      clear n0_ n1_ n2_ n3_
                      refine start_ (n := 14) (S := fun w' => w'.cell? ⟨gb180, 0, none⟩ = some (u181000) ∧ w'.cell? ⟨gb180, 1, none⟩ = some (u181001) ∧ w'.cell? ⟨gb180, 2, none⟩ = some (.int .i64 0) ∧ w'.cell? ⟨gb180, 3, none⟩ = some (.int .i64 0) ∧ w'.cell? ⟨gb180, 4, none⟩ = some (.int .i64 0)) (ds := [13]) #[false, false, false, false, false, false, false, false, false, false, false, false, false, false] (by kernel_rfl) rfl rfl ⟨xC_ BK180.out 0, xC_ BK180.out 1, xC_ BK180.out 2, xC_ BK180.out 3, xC_ BK180.out 4⟩ (fun hHeld => ?_); refine with_tabW pantryref09_Words.tab14 pantryref09_Words.bits14 (fun HT_ HW_ => ?_)
                      generalize wr.drew = w31 at HO_181000 HO_181001 BK180 HB hHeld ⊢
                      refine pure_ (i := 0) (N := some 57) (v := ?_) (a' := ?_) #[true, false, false, false, false, false, false, false, false, false, false, false, false, false] rfl rfl (any_of HT_.out (by kernel_rfl)) (fun _ _ _ h => h) (Or.inl ⟨by rfl, ?_⟩) ?_ ?_
                      rotate_left
                      ·
                       intro w'
                       go_simp
                       with_reducible rfl
                      rotate_left
                      ·
                       simp only [Act.put, sA_, sZ_, sS_, i64_w, i32_w]
                       rfl
                      refine pure_ (i := 1) (N := some 58) (v := ?_) (a' := ?_) #[true, true, false, false, false, false, false, false, false, false, false, false, false, false] rfl rfl (any_of HT_.out (by kernel_rfl)) (fun _ _ _ h => h) (Or.inl ⟨by rfl, ?_⟩) ?_ ?_
                      rotate_left
                      ·
                       intro w'
                       go_simp
                       with_reducible rfl
                      rotate_left
                      ·
                       simp only [Act.put, sA_, sZ_, sS_, i64_w, i32_w]
                       rfl
                      refine pure_ (i := 2) (N := some 59) (v := ?_) (a' := ?_) #[true, true, true, false, false, false, false, false, false, false, false, false, false, false] rfl rfl (any_of HT_.out (by kernel_rfl)) (fun _ _ _ h => h) (Or.inl ⟨by rfl, ?_⟩) ?_ ?_
                      rotate_left
                      ·
                       intro w'
                       go_simp
                       with_reducible rfl
                      rotate_left
                      ·
                       simp only [Act.put, sA_, sZ_, sS_, i64_w, i32_w]
                       rfl
                      refine pure_ (i := 3) (N := some 60) (v := ?_) (a' := ?_) #[true, true, true, true, false, false, false, false, false, false, false, false, false, false] rfl rfl (any_of HT_.out (by kernel_rfl)) (fun _ _ _ h => h) (Or.inl ⟨by rfl, ?_⟩) ?_ ?_
                      rotate_left
                      ·
                       intro w'
                       go_simp
                       with_reducible rfl
                      rotate_left
                      ·
                       simp only [Act.put, sA_, sZ_, sS_, i64_w, i32_w]
                       rfl
                      refine pure_ (i := 5) (N := some 62) (v := ?_) (a' := ?_) #[true, true, true, true, false, true, false, false, false, false, false, false, false, false] rfl rfl (any_of HT_.out (by kernel_rfl)) (fun _ _ _ h => h) (Or.inl ⟨by rfl, ?_⟩) ?_ ?_
                      rotate_left
                      ·
                       intro w'
                       go_simp
                       with_reducible rfl
                      rotate_left
                      ·
                       simp only [Act.put, sA_, sZ_, sS_, i64_w, i32_w]
                       rfl
                      refine pure_ (i := 6) (N := some 63) (v := ?_) (a' := ?_) #[true, true, true, true, false, true, true, false, false, false, false, false, false, false] rfl rfl (any_of HT_.out (by kernel_rfl)) (fun _ _ _ h => h) (Or.inl ⟨by rfl, ?_⟩) ?_ ?_
                      rotate_left
                      ·
                       intro w'
                       go_simp
                       with_reducible rfl
                      rotate_left
                      ·
                       simp only [Act.put, sA_, sZ_, sS_, i64_w, i32_w]
                       rfl
                      refine pure_ (i := 7) (N := some 64) (v := ?_) (a' := ?_) #[true, true, true, true, false, true, true, true, false, false, false, false, false, false] rfl rfl (any_of HT_.out (by kernel_rfl)) (fun _ _ _ h => h) (Or.inl ⟨by rfl, ?_⟩) ?_ ?_
                      rotate_left
                      ·
                       intro w'
                       go_simp
                       with_reducible rfl
                      rotate_left
                      ·
                       simp only [Act.put, sA_, sZ_, sS_, i64_w, i32_w]
                       rfl
                      refine pure_ (i := 8) (N := some 65) (v := ?_) (a' := ?_) #[true, true, true, true, false, true, true, true, true, false, false, false, false, false] rfl rfl (any_of HT_.out (by kernel_rfl)) (fun _ _ _ h => h) (Or.inl ⟨by rfl, ?_⟩) ?_ ?_
                      rotate_left
                      ·
                       intro w'
                       go_simp
                       with_reducible rfl
                      rotate_left
                      ·
                       simp only [Act.put, sA_, sZ_, sS_, i64_w, i32_w]
                       rfl
                      refine take_ (i := 4) (N := some 61) (v := ?_) (a' := ?_) #[true, true, true, true, true, true, true, true, true, false, false, false, false, false] rfl rfl (take_ofW HT_.out HW_.out (by kernel_rfl)) (fun _ _ _ h => h) (Or.inl ⟨by rfl, ?_⟩) hHeld ?_ ?_
                      rotate_left
                      ·
                       rintro w' ⟨s0, s1, s2, s3, s4⟩
                       go_simp
                       with_reducible rfl
                      rotate_left
                      ·
                       simp only [Act.put, sA_, sZ_, sS_, i64_w, i32_w]
                       rfl
                      refine one_ (i := 9) (N := some 66) #[true, true, true, true, true, true, true, true, true, true, false, false, false, false] rfl rfl (one_of HT_.out (by kernel_rfl)) (by decide) (fun K hK => ?_)
                      refine value_ (w1 := ?_) (v := ?_) (by rfl) rfl ?_ ?_
                      rotate_left 2
                      ·
                       go_simp
                       constructor
                       ·
                        rfl
                       ·
                        rfl
                      refine hK.out _ _ ⟨(blk_cell (bA_ BK180.out _) 0).trans rfl, (blk_cell (bA_ BK180.out _) 1).trans rfl, (blk_cell (bA_ BK180.out _) 2).trans rfl, (blk_cell (bA_ BK180.out _) 3).trans rfl, (blk_cell (bA_ BK180.out _) 4).trans rfl⟩ (fun hHeld => ?_)
                      clear hK K
                      refine norm_ (a' := ?_) ?_ ?_
                      rotate_left
                      ·
                       show Act.put _ (some 66) _ = _
                       simp only [Act.put, sA_, sZ_, sS_, i64_w, i32_w]
                       rfl
                      refine one_ (i := 10) (N := some 67) #[true, true, true, true, true, true, true, true, true, true, true, false, false, false] rfl rfl (one_of HT_.out (by kernel_rfl)) (by decide) (fun K hK => ?_)
                      refine Kd.R_append_step Kd.string (w0 := w) w.heap.size (by rfl) (.tmp 61) (.tmp 66) 27 9 (.string ⟨#[]⟩) 16 rfl Tryd.underlying27 info9 rfl (by decide) (by omega) u181000 x181000_1 (a0.extract (x5_1 : Int).toNat (x5_3 : Int).toNat) [.string (a0.extract (x5_1 : Int).toNat (x5_3 : Int).toNat)] (fun _ => True) (fun _ => False) rfl rfl ?aP (fun _ hk => hk.elim) ?aF ?aO ?aB ?aS ?aL ?_
                      (case aP => exact rfl)
                      (case aB => exact W2_)
                      (case aF => exact (fun _ _ => trivial))
                      (case aO => exact (R1_ HO_181000.out))
                      (case aS => exact (below_size W2_))
                      (case aL => have := LMc29.out; omega)
                      intro v192 w32 ho hb hg hat
                      rw [← Ny191.out] at ho
                      have n0_ := Aside0.mk (Kd.R_over' (R1_ HO_181001.out) (Kd.R_typed (R1_ HO_181000.out)) (by decide) hg)
                      have n1_ := Aside0.mk (blk_grown (g := gb180) (o := .cells #[u181000, u181001, .int .i64 0, .int .i64 0, .int .i64 0] 45 (0, 0)) (B1_ BK180.out) hg (Kd.R_ne HO_181000.out BK180.out (by decide)))
                      have n2_ := Aside0.mk (hb)
                      have n3_ := Aside0.mk (ho)
                      clear HO_181001
                      clear BK180
                      clear HB
                      clear HO_181000
                      have HO_181001 := n0_
                      have BK180 := n1_
                      have HB := n2_
                      have HO193 := n3_
                      clear n0_ n1_ n2_ n3_
                      clear ho hb hg hat
                      obtain ⟨Ao33, co33, eo33⟩ := Kd.R_slice HO193.out
                      (first | subst eo33 | (injection eo33 with f1_ f2_ f3_; have f4_ := f1_.symm; have f5_ := f3_.symm; clear f1_ f2_ f3_; subst f4_; subst f5_))
                      refine hK.out _ _ ⟨xC_ BK180.out 0, xC_ BK180.out 1, xC_ BK180.out 2, xC_ BK180.out 3, xC_ BK180.out 4⟩ (fun hHeld => ?_)
                      clear hK K
                      refine norm_ (a' := ?_) ?_ ?_
                      rotate_left
                      ·
                       show Act.put _ (some 67) _ = _
                       simp only [Act.put, sA_, sZ_, sS_, i64_w, i32_w]
                       rfl
                      refine pure_ (i := 11) (N := some 68) (v := ?_) (a' := ?_) #[true, true, true, true, true, true, true, true, true, true, true, true, false, false] rfl rfl (any_of HT_.out (by kernel_rfl)) (fun _ _ _ h => h) (Or.inl ⟨by rfl, ?_⟩) ?_ ?_
                      rotate_left
                      ·
                       intro w'
                       go_simp
                       with_reducible rfl
                      rotate_left
                      ·
                       simp only [Act.put, sA_, sZ_, sS_, i64_w, i32_w]
                       rfl
                      refine pure_ (i := 12) (N := some 69) (v := ?_) (a' := ?_) #[true, true, true, true, true, true, true, true, true, true, true, true, true, false] rfl rfl (any_of HT_.out (by kernel_rfl)) (fun _ _ _ h => h) (Or.inl ⟨by rfl, ?_⟩) ?_ ?_
                      rotate_left
                      ·
                       intro w'
                       go_simp
                       with_reducible rfl
                      rotate_left
                      ·
                       simp only [Act.put, sA_, sZ_, sS_, i64_w, i32_w]
                       rfl
                      refine last_ (i := 13) (N := none) #[true, true, true, true, true, true, true, true, true, true, true, true, true, true] rfl rfl (one_of HT_.out (by kernel_rfl)) (by decide) (fun K hK => ?_)
                      have hs34 : w32.cell? ⟨gb180, 0, none⟩ = some (u181000) := xC_ BK180.out 0
                      have hfs34 := blk_frozen BK180.out 0
                      refine skip_ (w1 := ?_) (by rfl) rfl ?_ ?_
                      rotate_left
                      ·
                       go_simp
                       rfl
                      refine hK.out _ _ ?_
                      clear hK K
                      refine done_ (done_of HT_.out (by kernel_rfl)) ?_
                      obtain ⟨z35_0, z35_1, z35_2, z35_3, z35_4, y35_0, y35_1, y35_2, y35_3, y35_4⟩ := cz5_ BK180.out
                      try go_wp2_with (first | ((with_reducible refine gate_builtin (b := .append) (xs := #[.tmp 74, .tmp 76]) rfl ?_); at_builtin; refine Kd.R_append (Kd.int .i64) (w0 := w) w.heap.size rfl (.tmp 74) (.tmp 76) 41 3 (.int .i64 0) 8 rfl Tryd.underlying41 info3 rfl (by decide) (by omega) u181001 x181001_1 x4_11 [.int .i64 x4_11] (fun _ => True) (fun _ => False) rfl (by first | (go_simp; done) | (go_simp; rfl)) ?aP (fun _ hk => hk.elim) ?aF ?aO ?aB ?aS ?aL ?_; (case aP => exact rfl); (case aB => exact W2_); (case aF => exact (fun _ _ => trivial)); (case aO => exact (by refine R1_ ?_; exact Kd.R_mono (Kd.R_far (p := ⟨gb180, 0, none⟩) (Kd.R_types HO_181001.out BK180.out (by decide)) (fun _ hk => hk.2) (.slice Ao33 y191.length co33)) (fun _ hk => trivial))); (case aS => exact (below_size W2_)); (case aL => have := LMc30.out; omega); intro v195 w36 ho hb hg hat; rw [← Ny194.out] at ho; have n0_ := Aside0.mk (blk_grown (g := gb180) (o := .cells #[.slice Ao33 y191.length co33, u181001, .int .i64 0, .int .i64 0, .int .i64 0] 45 (0, 0)) (G1_ BK180.out) hg (Kd.R_ne HO_181001.out BK180.out (by decide))); have n1_ := Aside0.mk (Kd.R_over' (by refine R1_ ?_; exact (Kd.R_mono (Kd.R_far (p := ⟨gb180, 0, none⟩) (Kd.R_types HO193.out BK180.out (by decide)) (fun _ hk => hk.2) (.slice Ao33 y191.length co33)) (fun _ h_ => h_.1))) (Kd.R_typed (by refine R1_ ?_; exact (Kd.R_mono (Kd.R_far (p := ⟨gb180, 0, none⟩) (Kd.R_types HO_181001.out BK180.out (by decide)) (fun _ hk => hk.2) (.slice Ao33 y191.length co33)) (fun _ h_ => h_.1)))) (by decide) hg); have n2_ := Aside0.mk (hb); have n3_ := Aside0.mk (ho); clear BK180; clear HO193; clear HB; clear HO_181001; have BK180 := n0_; have HO193 := n1_; have HB := n2_; have HO196 := n3_; clear n0_ n1_ n2_ n3_; clear ho hb hg hat; obtain ⟨Ao37, co37, eo37⟩ := Kd.R_slice HO196.out; subst eo37; obtain ⟨z38_0, z38_1, z38_2, z38_3, z38_4, y38_0, y38_1, y38_2, y38_3, y38_4⟩ := cz5_ BK180.out))
                      go_roundg k3
                      case measure => have := HK1.out; have := HJ11.out; have := HK3.out; omega
                      case rel => exact ⟨(x4_11), (x5_3), (y191), (y194), (.slice Ao33 y191.length co33), (.slice Ao37 y194.length co37), E3_, E3_, H', ⟨by have := HK1.out; have := HJ11.out; have := HK3.out; omega⟩, ⟨by refine R1_ ?_; exact Kd.R_mono (Kd.R_far (p := ⟨gb180, 1, none⟩) (Kd.R_types HO193.out BK180.out (by decide)) (fun _ hk => hk.2) (.slice Ao37 y194.length co37)) (fun _ hk => trivial)⟩, ⟨by refine R1_ ?_; exact Kd.R_mono (Kd.R_far (p := ⟨gb180, 1, none⟩) (Kd.R_types HO196.out BK180.out (by decide)) (fun _ hk => hk.2) (.slice Ao37 y194.length co37)) (fun _ hk => trivial)⟩, ⟨G1_ BK180.out⟩, ⟨W2_⟩⟩
                     ·
                      rw [if_neg c30] at H
                      exact absurd H (by simp)
                    ·
                     rw [if_neg c29] at H
                     exact absurd H (by simp)
                   ·
                    rw [if_neg c28] at H
                    exact absurd H (by simp)
                  ·
                   rw [if_neg c27] at H
                   exact absurd H (by simp)
                 ·
                  rw [if_neg c26] at H
                  exact absurd H (by simp)
                ·
                 replace c25 := Bool.eq_false_iff.mpr c25
                 subst c25
                 rw [if_neg (show ¬ (false = true) by decide)] at H
                 have H' := Aside0.mk H
                 clear H
                 have p21 : 0 ≤ (x5_3 : Int) := oA_
                 have q21 : x5_3 < (a0.size : Int) := oA_
                 have hx21 := bt_at a0 x5_3
                 replace p21 := eq_true p21
                 replace q21 := eq_true q21
                 go_wp2_with (first | (go_at_call 21; (with_reducible refine (pantryref09_plain.calls (bt a0 x5_3) true _ A22.out).mono ?_); rintro e w' ⟨rfl, ⟨nd, rfl⟩⟩) | (go_at_call 20; (with_reducible refine (pantryref09_comment.calls a0 x5_3 false _ A24.out).mono ?_); rintro e w' ⟨rfl, ⟨nd, rfl⟩⟩))
                 go_roundg k3
                 case measure => have := HK1.out; have := HJ11.out; have := HK3.out; omega
                 case rel => exact ⟨(wrap64 (x5_3 + 1)), E3_, H', ⟨by have := HK1.out; have := HJ11.out; have := HK3.out; omega⟩, ⟨R1_ HO_181000.out⟩, ⟨R1_ HO_181001.out⟩, ⟨B1_ BK180.out⟩, ⟨W2_⟩⟩
               ·
                replace c23 := Bool.eq_false_iff.mpr c23
                subst c23
                rw [if_neg (show ¬ (false = true) by decide)] at H
                by_cases c39 : 0 ≤ x5_1
                ·
                 rw [if_pos c39] at H
                 have c39b0 := eq_true c39
                 have c39b1 : decide (0 ≤ x5_1) = true := decide_eq_true c39
                 clear c39
                 by_cases c40 : x5_1 ≤ x5_3
                 ·
                  rw [if_pos c40] at H
                  have c40b0 := eq_true c40
                  have c40b1 : decide (x5_1 ≤ x5_3) = true := decide_eq_true c40
                  clear c40
                  by_cases c41 : x5_3 ≤ (a0.size : Int)
                  ·
                   rw [if_pos c41] at H
                   have c41b0 := eq_true c41
                   have c41b1 : decide (x5_3 ≤ (a0.size : Int)) = true := decide_eq_true c41
                   clear c41
                   by_cases c42 : x181000_1.length < 8796093022208
                   ·
                    rw [if_pos c42] at H
                    have LMc42 := Aside0.mk c42
                    clear c42
                    obtain ⟨y197, hy197⟩ : ∃ y_ : List ByteArray, y_ = (x181000_1 ++ [a0.extract (x5_1 : Int).toNat (x5_3 : Int).toNat]) := ⟨_, rfl⟩
                    replace H : (if x181001_1.length < 17592186044416 then (pantryref09_Words.l0 k3 a0 x4_11 x5_3 y197 (x181001_1 ++ [x4_11]) 0 0 0) else (none)) = some r := by first | (rw [hy197]; with_reducible exact H) | (have H2_ := (Option.bind_some _ _).symm.trans H; rw [hy197]; with_reducible exact H2_) | (have H2_ := (Option.bind_some _ _).symm.trans H; with_reducible exact H2_) | with_reducible exact H | (rw [hy197]; exact H) | exact H
                    have Ny197 := Aside0.mk hy197
                    clear hy197
                    by_cases c43 : x181001_1.length < 17592186044416
                    ·
                     rw [if_pos c43] at H
                     have LMc43 := Aside0.mk c43
                     clear c43
                     obtain ⟨y200, hy200⟩ : ∃ y_ : List Int, y_ = (x181001_1 ++ [x4_11]) := ⟨_, rfl⟩
                     replace H : (pantryref09_Words.l0 k3 a0 x4_11 x5_3 y197 y200 0 0 0) = some r := by first | (rw [hy200]; with_reducible exact H) | (have H2_ := (Option.bind_some _ _).symm.trans H; rw [hy200]; with_reducible exact H2_) | (have H2_ := (Option.bind_some _ _).symm.trans H; with_reducible exact H2_) | with_reducible exact H | (rw [hy200]; exact H) | exact H
                     have Ny200 := Aside0.mk hy200
                     clear hy200
                     have H' := Aside0.mk H
                     clear H
                     have p21 : 0 ≤ (x5_3 : Int) := oA_
                     have q21 : x5_3 < (a0.size : Int) := oA_
                     have hx21 := bt_at a0 x5_3
                     replace p21 := eq_true p21
                     replace q21 := eq_true q21
                     try go_wp2_with (first | (go_at_call 21; (with_reducible refine (pantryref09_plain.calls (bt a0 x5_3) false _ A22.out).mono ?_); rintro e w' ⟨rfl, ⟨nd, rfl⟩⟩; (try (rw [drewN_self wr]; generalize hq_ : World.drewN wr _ = wr; have n0_ : Aside0 (Kd.R Kd.string 9 wr w.heap.size (fun _ => True) u181000 x181000_1) := ⟨by rw [← hq_]; exact (R1_ HO_181000.out)⟩; have n1_ : Aside0 (Kd.R (Kd.int .i64) 3 wr w.heap.size (fun _ => True) u181001 x181001_1) := ⟨by rw [← hq_]; exact (R1_ HO_181001.out)⟩; have n2_ : Aside0 (wr.heap[gb180]? = some (.cells #[u181000, u181001, .int .i64 0, .int .i64 0, .int .i64 0] 45 (0, 0))) := ⟨by rw [← hq_]; exact (B1_ BK180.out)⟩; have n3_ : Aside0 (Below w.heap.size w wr) := ⟨by rw [← hq_]; exact W2_⟩; clear HO_181000 HO_181001 BK180 HB hq_; have HO_181000 := n0_; have HO_181001 := n1_; have BK180 := n2_; have HB := n3_; clear n0_ n1_ n2_ n3_))))
                     have n0_ := Aside0.mk (kD_ HO_181000.out)
                     have n1_ := Aside0.mk (kD_ HO_181001.out)
                     have n2_ := Aside0.mk (bD_ BK180.out)
                     have n3_ := Aside0.mk (zD_ HB.out)
                     clear HO_181000
                     clear HO_181001
                     clear BK180
                     clear HB
                     have HO_181000 := n0_
                     have HO_181001 := n1_
                     have BK180 := n2_
                     have HB := n3_
                     clear n0_ n1_ n2_ n3_
                     refine start_ (n := 14) (S := fun w' => w'.cell? ⟨gb180, 0, none⟩ = some (u181000) ∧ w'.cell? ⟨gb180, 1, none⟩ = some (u181001) ∧ w'.cell? ⟨gb180, 2, none⟩ = some (.int .i64 0) ∧ w'.cell? ⟨gb180, 3, none⟩ = some (.int .i64 0) ∧ w'.cell? ⟨gb180, 4, none⟩ = some (.int .i64 0)) (ds := [13]) #[false, false, false, false, false, false, false, false, false, false, false, false, false, false] (by kernel_rfl) rfl rfl ⟨xC_ BK180.out 0, xC_ BK180.out 1, xC_ BK180.out 2, xC_ BK180.out 3, xC_ BK180.out 4⟩ (fun hHeld => ?_); refine with_tabW pantryref09_Words.tab14 pantryref09_Words.bits14 (fun HT_ HW_ => ?_)
                     generalize wr.drew = w44 at HO_181000 HO_181001 BK180 HB hHeld ⊢
                     refine pure_ (i := 0) (N := some 57) (v := ?_) (a' := ?_) #[true, false, false, false, false, false, false, false, false, false, false, false, false, false] rfl rfl (any_of HT_.out (by kernel_rfl)) (fun _ _ _ h => h) (Or.inl ⟨by rfl, ?_⟩) ?_ ?_
                     rotate_left
                     ·
                      intro w'
                      go_simp
                      with_reducible rfl
                     rotate_left
                     ·
                      simp only [Act.put, sA_, sZ_, sS_, i64_w, i32_w]
                      rfl
                     refine pure_ (i := 1) (N := some 58) (v := ?_) (a' := ?_) #[true, true, false, false, false, false, false, false, false, false, false, false, false, false] rfl rfl (any_of HT_.out (by kernel_rfl)) (fun _ _ _ h => h) (Or.inl ⟨by rfl, ?_⟩) ?_ ?_
                     rotate_left
                     ·
                      intro w'
                      go_simp
                      with_reducible rfl
                     rotate_left
                     ·
                      simp only [Act.put, sA_, sZ_, sS_, i64_w, i32_w]
                      rfl
                     refine pure_ (i := 2) (N := some 59) (v := ?_) (a' := ?_) #[true, true, true, false, false, false, false, false, false, false, false, false, false, false] rfl rfl (any_of HT_.out (by kernel_rfl)) (fun _ _ _ h => h) (Or.inl ⟨by rfl, ?_⟩) ?_ ?_
                     rotate_left
                     ·
                      intro w'
                      go_simp
                      with_reducible rfl
                     rotate_left
                     ·
                      simp only [Act.put, sA_, sZ_, sS_, i64_w, i32_w]
                      rfl
                     refine pure_ (i := 3) (N := some 60) (v := ?_) (a' := ?_) #[true, true, true, true, false, false, false, false, false, false, false, false, false, false] rfl rfl (any_of HT_.out (by kernel_rfl)) (fun _ _ _ h => h) (Or.inl ⟨by rfl, ?_⟩) ?_ ?_
                     rotate_left
                     ·
                      intro w'
                      go_simp
                      with_reducible rfl
                     rotate_left
                     ·
                      simp only [Act.put, sA_, sZ_, sS_, i64_w, i32_w]
                      rfl
                     refine pure_ (i := 5) (N := some 62) (v := ?_) (a' := ?_) #[true, true, true, true, false, true, false, false, false, false, false, false, false, false] rfl rfl (any_of HT_.out (by kernel_rfl)) (fun _ _ _ h => h) (Or.inl ⟨by rfl, ?_⟩) ?_ ?_
                     rotate_left
                     ·
                      intro w'
                      go_simp
                      with_reducible rfl
                     rotate_left
                     ·
                      simp only [Act.put, sA_, sZ_, sS_, i64_w, i32_w]
                      rfl
                     refine pure_ (i := 6) (N := some 63) (v := ?_) (a' := ?_) #[true, true, true, true, false, true, true, false, false, false, false, false, false, false] rfl rfl (any_of HT_.out (by kernel_rfl)) (fun _ _ _ h => h) (Or.inl ⟨by rfl, ?_⟩) ?_ ?_
                     rotate_left
                     ·
                      intro w'
                      go_simp
                      with_reducible rfl
                     rotate_left
                     ·
                      simp only [Act.put, sA_, sZ_, sS_, i64_w, i32_w]
                      rfl
                     refine pure_ (i := 7) (N := some 64) (v := ?_) (a' := ?_) #[true, true, true, true, false, true, true, true, false, false, false, false, false, false] rfl rfl (any_of HT_.out (by kernel_rfl)) (fun _ _ _ h => h) (Or.inl ⟨by rfl, ?_⟩) ?_ ?_
                     rotate_left
                     ·
                      intro w'
                      go_simp
                      with_reducible rfl
                     rotate_left
                     ·
                      simp only [Act.put, sA_, sZ_, sS_, i64_w, i32_w]
                      rfl
                     refine pure_ (i := 8) (N := some 65) (v := ?_) (a' := ?_) #[true, true, true, true, false, true, true, true, true, false, false, false, false, false] rfl rfl (any_of HT_.out (by kernel_rfl)) (fun _ _ _ h => h) (Or.inl ⟨by rfl, ?_⟩) ?_ ?_
                     rotate_left
                     ·
                      intro w'
                      go_simp
                      with_reducible rfl
                     rotate_left
                     ·
                      simp only [Act.put, sA_, sZ_, sS_, i64_w, i32_w]
                      rfl
                     refine take_ (i := 4) (N := some 61) (v := ?_) (a' := ?_) #[true, true, true, true, true, true, true, true, true, false, false, false, false, false] rfl rfl (take_ofW HT_.out HW_.out (by kernel_rfl)) (fun _ _ _ h => h) (Or.inl ⟨by rfl, ?_⟩) hHeld ?_ ?_
                     rotate_left
                     ·
                      rintro w' ⟨s0, s1, s2, s3, s4⟩
                      go_simp
                      with_reducible rfl
                     rotate_left
                     ·
                      simp only [Act.put, sA_, sZ_, sS_, i64_w, i32_w]
                      rfl
                     refine one_ (i := 9) (N := some 66) #[true, true, true, true, true, true, true, true, true, true, false, false, false, false] rfl rfl (one_of HT_.out (by kernel_rfl)) (by decide) (fun K hK => ?_)
                     refine value_ (w1 := ?_) (v := ?_) (by rfl) rfl ?_ ?_
                     rotate_left 2
                     ·
                      go_simp
                      constructor
                      ·
                       rfl
                      ·
                       rfl
                     refine hK.out _ _ ⟨(blk_cell (bA_ BK180.out _) 0).trans rfl, (blk_cell (bA_ BK180.out _) 1).trans rfl, (blk_cell (bA_ BK180.out _) 2).trans rfl, (blk_cell (bA_ BK180.out _) 3).trans rfl, (blk_cell (bA_ BK180.out _) 4).trans rfl⟩ (fun hHeld => ?_)
                     clear hK K
                     refine norm_ (a' := ?_) ?_ ?_
                     rotate_left
                     ·
                      show Act.put _ (some 66) _ = _
                      simp only [Act.put, sA_, sZ_, sS_, i64_w, i32_w]
                      rfl
                     refine one_ (i := 10) (N := some 67) #[true, true, true, true, true, true, true, true, true, true, true, false, false, false] rfl rfl (one_of HT_.out (by kernel_rfl)) (by decide) (fun K hK => ?_)
                     refine Kd.R_append_step Kd.string (w0 := w) w.heap.size (by rfl) (.tmp 61) (.tmp 66) 27 9 (.string ⟨#[]⟩) 16 rfl Tryd.underlying27 info9 rfl (by decide) (by omega) u181000 x181000_1 (a0.extract (x5_1 : Int).toNat (x5_3 : Int).toNat) [.string (a0.extract (x5_1 : Int).toNat (x5_3 : Int).toNat)] (fun _ => True) (fun _ => False) rfl rfl ?aP (fun _ hk => hk.elim) ?aF ?aO ?aB ?aS ?aL ?_
                     (case aP => exact rfl)
                     (case aB => exact W2_)
                     (case aF => exact (fun _ _ => trivial))
                     (case aO => exact (R1_ HO_181000.out))
                     (case aS => exact (below_size W2_))
                     (case aL => have := LMc42.out; omega)
                     intro v198 w45 ho hb hg hat
                     rw [← Ny197.out] at ho
                     have n0_ := Aside0.mk (Kd.R_over' (R1_ HO_181001.out) (Kd.R_typed (R1_ HO_181000.out)) (by decide) hg)
                     have n1_ := Aside0.mk (blk_grown (g := gb180) (o := .cells #[u181000, u181001, .int .i64 0, .int .i64 0, .int .i64 0] 45 (0, 0)) (B1_ BK180.out) hg (Kd.R_ne HO_181000.out BK180.out (by decide)))
                     have n2_ := Aside0.mk (hb)
                     have n3_ := Aside0.mk (ho)
                     clear HO_181001
                     clear BK180
                     clear HB
                     clear HO_181000
                     have HO_181001 := n0_
                     have BK180 := n1_
                     have HB := n2_
                     have HO199 := n3_
                     clear n0_ n1_ n2_ n3_
                     clear ho hb hg hat
                     obtain ⟨Ao46, co46, eo46⟩ := Kd.R_slice HO199.out
                     (first | subst eo46 | (injection eo46 with f1_ f2_ f3_; have f4_ := f1_.symm; have f5_ := f3_.symm; clear f1_ f2_ f3_; subst f4_; subst f5_))
                     refine hK.out _ _ ⟨xC_ BK180.out 0, xC_ BK180.out 1, xC_ BK180.out 2, xC_ BK180.out 3, xC_ BK180.out 4⟩ (fun hHeld => ?_)
                     clear hK K
                     refine norm_ (a' := ?_) ?_ ?_
                     rotate_left
                     ·
                      show Act.put _ (some 67) _ = _
                      simp only [Act.put, sA_, sZ_, sS_, i64_w, i32_w]
                      rfl
                     refine pure_ (i := 11) (N := some 68) (v := ?_) (a' := ?_) #[true, true, true, true, true, true, true, true, true, true, true, true, false, false] rfl rfl (any_of HT_.out (by kernel_rfl)) (fun _ _ _ h => h) (Or.inl ⟨by rfl, ?_⟩) ?_ ?_
                     rotate_left
                     ·
                      intro w'
                      go_simp
                      with_reducible rfl
                     rotate_left
                     ·
                      simp only [Act.put, sA_, sZ_, sS_, i64_w, i32_w]
                      rfl
                     refine pure_ (i := 12) (N := some 69) (v := ?_) (a' := ?_) #[true, true, true, true, true, true, true, true, true, true, true, true, true, false] rfl rfl (any_of HT_.out (by kernel_rfl)) (fun _ _ _ h => h) (Or.inl ⟨by rfl, ?_⟩) ?_ ?_
                     rotate_left
                     ·
                      intro w'
                      go_simp
                      with_reducible rfl
                     rotate_left
                     ·
                      simp only [Act.put, sA_, sZ_, sS_, i64_w, i32_w]
                      rfl
                     refine last_ (i := 13) (N := none) #[true, true, true, true, true, true, true, true, true, true, true, true, true, true] rfl rfl (one_of HT_.out (by kernel_rfl)) (by decide) (fun K hK => ?_)
                     have hs47 : w45.cell? ⟨gb180, 0, none⟩ = some (u181000) := xC_ BK180.out 0
                     have hfs47 := blk_frozen BK180.out 0
                     refine skip_ (w1 := ?_) (by rfl) rfl ?_ ?_
                     rotate_left
                     ·
                      go_simp
                      rfl
                     refine hK.out _ _ ?_
                     clear hK K
                     refine done_ (done_of HT_.out (by kernel_rfl)) ?_
                     obtain ⟨z48_0, z48_1, z48_2, z48_3, z48_4, y48_0, y48_1, y48_2, y48_3, y48_4⟩ := cz5_ BK180.out
                     try go_wp2_with (first | ((with_reducible refine gate_builtin (b := .append) (xs := #[.tmp 74, .tmp 76]) rfl ?_); at_builtin; refine Kd.R_append (Kd.int .i64) (w0 := w) w.heap.size rfl (.tmp 74) (.tmp 76) 41 3 (.int .i64 0) 8 rfl Tryd.underlying41 info3 rfl (by decide) (by omega) u181001 x181001_1 x4_11 [.int .i64 x4_11] (fun _ => True) (fun _ => False) rfl (by first | (go_simp; done) | (go_simp; rfl)) ?aP (fun _ hk => hk.elim) ?aF ?aO ?aB ?aS ?aL ?_; (case aP => exact rfl); (case aB => exact W2_); (case aF => exact (fun _ _ => trivial)); (case aO => exact (by refine R1_ ?_; exact Kd.R_mono (Kd.R_far (p := ⟨gb180, 0, none⟩) (Kd.R_types HO_181001.out BK180.out (by decide)) (fun _ hk => hk.2) (.slice Ao46 y197.length co46)) (fun _ hk => trivial))); (case aS => exact (below_size W2_)); (case aL => have := LMc43.out; omega); intro v201 w49 ho hb hg hat; rw [← Ny200.out] at ho; have n0_ := Aside0.mk (blk_grown (g := gb180) (o := .cells #[.slice Ao46 y197.length co46, u181001, .int .i64 0, .int .i64 0, .int .i64 0] 45 (0, 0)) (G1_ BK180.out) hg (Kd.R_ne HO_181001.out BK180.out (by decide))); have n1_ := Aside0.mk (Kd.R_over' (by refine R1_ ?_; exact (Kd.R_mono (Kd.R_far (p := ⟨gb180, 0, none⟩) (Kd.R_types HO199.out BK180.out (by decide)) (fun _ hk => hk.2) (.slice Ao46 y197.length co46)) (fun _ h_ => h_.1))) (Kd.R_typed (by refine R1_ ?_; exact (Kd.R_mono (Kd.R_far (p := ⟨gb180, 0, none⟩) (Kd.R_types HO_181001.out BK180.out (by decide)) (fun _ hk => hk.2) (.slice Ao46 y197.length co46)) (fun _ h_ => h_.1)))) (by decide) hg); have n2_ := Aside0.mk (hb); have n3_ := Aside0.mk (ho); clear BK180; clear HO199; clear HB; clear HO_181001; have BK180 := n0_; have HO199 := n1_; have HB := n2_; have HO202 := n3_; clear n0_ n1_ n2_ n3_; clear ho hb hg hat; obtain ⟨Ao50, co50, eo50⟩ := Kd.R_slice HO202.out; subst eo50; obtain ⟨z51_0, z51_1, z51_2, z51_3, z51_4, y51_0, y51_1, y51_2, y51_3, y51_4⟩ := cz5_ BK180.out))
                     go_roundg k3
                     case measure => have := HK1.out; have := HJ11.out; have := HK3.out; omega
                     case rel => exact ⟨(x4_11), (x5_3), (y197), (y200), (.slice Ao46 y197.length co46), (.slice Ao50 y200.length co50), E3_, E3_, H', ⟨by have := HK1.out; have := HJ11.out; have := HK3.out; omega⟩, ⟨by refine R1_ ?_; exact Kd.R_mono (Kd.R_far (p := ⟨gb180, 1, none⟩) (Kd.R_types HO199.out BK180.out (by decide)) (fun _ hk => hk.2) (.slice Ao50 y200.length co50)) (fun _ hk => trivial)⟩, ⟨by refine R1_ ?_; exact Kd.R_mono (Kd.R_far (p := ⟨gb180, 1, none⟩) (Kd.R_types HO202.out BK180.out (by decide)) (fun _ hk => hk.2) (.slice Ao50 y200.length co50)) (fun _ hk => trivial)⟩, ⟨G1_ BK180.out⟩, ⟨W2_⟩⟩
                    ·
                     rw [if_neg c43] at H
                     exact absurd H (by simp)
                   ·
                    rw [if_neg c42] at H
                    exact absurd H (by simp)
                  ·
                   rw [if_neg c41] at H
                   exact absurd H (by simp)
                 ·
                  rw [if_neg c40] at H
                  exact absurd H (by simp)
                ·
                 rw [if_neg c39] at H
                 exact absurd H (by simp)
              ·
               rw [if_neg c20] at H
               exact absurd H (by simp)
             ·
              rw [if_neg c19] at H
              have c19b0 : decide (x5_3 < (a0.size : Int)) = false := decide_eq_false c19
              clear c19
              by_cases c52 : 0 ≤ x5_1
              ·
               rw [if_pos c52] at H
               have c52b0 := eq_true c52
               have c52b1 : decide (0 ≤ x5_1) = true := decide_eq_true c52
               clear c52
               by_cases c53 : x5_1 ≤ x5_3
               ·
                rw [if_pos c53] at H
                have c53b0 := eq_true c53
                have c53b1 : decide (x5_1 ≤ x5_3) = true := decide_eq_true c53
                clear c53
                by_cases c54 : x5_3 ≤ (a0.size : Int)
                ·
                 rw [if_pos c54] at H
                 have c54b0 := eq_true c54
                 have c54b1 : decide (x5_3 ≤ (a0.size : Int)) = true := decide_eq_true c54
                 clear c54
                 by_cases c55 : x181000_1.length < 8796093022208
                 ·
                  rw [if_pos c55] at H
                  have LMc55 := Aside0.mk c55
                  clear c55
                  obtain ⟨y203, hy203⟩ : ∃ y_ : List ByteArray, y_ = (x181000_1 ++ [a0.extract (x5_1 : Int).toNat (x5_3 : Int).toNat]) := ⟨_, rfl⟩
                  replace H : (if x181001_1.length < 17592186044416 then (pantryref09_Words.l0 k3 a0 x4_11 x5_3 y203 (x181001_1 ++ [x4_11]) 0 0 0) else (none)) = some r := by first | (rw [hy203]; with_reducible exact H) | (have H2_ := (Option.bind_some _ _).symm.trans H; rw [hy203]; with_reducible exact H2_) | (have H2_ := (Option.bind_some _ _).symm.trans H; with_reducible exact H2_) | with_reducible exact H | (rw [hy203]; exact H) | exact H
                  have Ny203 := Aside0.mk hy203
                  clear hy203
                  by_cases c56 : x181001_1.length < 17592186044416
                  ·
                   rw [if_pos c56] at H
                   have LMc56 := Aside0.mk c56
                   clear c56
                   obtain ⟨y206, hy206⟩ : ∃ y_ : List Int, y_ = (x181001_1 ++ [x4_11]) := ⟨_, rfl⟩
                   replace H : (pantryref09_Words.l0 k3 a0 x4_11 x5_3 y203 y206 0 0 0) = some r := by first | (rw [hy206]; with_reducible exact H) | (have H2_ := (Option.bind_some _ _).symm.trans H; rw [hy206]; with_reducible exact H2_) | (have H2_ := (Option.bind_some _ _).symm.trans H; with_reducible exact H2_) | with_reducible exact H | (rw [hy206]; exact H) | exact H
                   have Ny206 := Aside0.mk hy206
                   clear hy206
                   have H' := Aside0.mk H
                   clear H
                   try go_wp2
                   have n0_ := Aside0.mk (kD_ HO_181000.out)
                   have n1_ := Aside0.mk (kD_ HO_181001.out)
                   have n2_ := Aside0.mk (bD_ BK180.out)
                   have n3_ := Aside0.mk (zD_ HB.out)
                   clear HO_181000
                   clear HO_181001
                   clear BK180
                   clear HB
                   have HO_181000 := n0_
                   have HO_181001 := n1_
                   have BK180 := n2_
                   have HB := n3_
                   clear n0_ n1_ n2_ n3_
                   refine start_ (n := 14) (S := fun w' => w'.cell? ⟨gb180, 0, none⟩ = some (u181000) ∧ w'.cell? ⟨gb180, 1, none⟩ = some (u181001) ∧ w'.cell? ⟨gb180, 2, none⟩ = some (.int .i64 0) ∧ w'.cell? ⟨gb180, 3, none⟩ = some (.int .i64 0) ∧ w'.cell? ⟨gb180, 4, none⟩ = some (.int .i64 0)) (ds := [13]) #[false, false, false, false, false, false, false, false, false, false, false, false, false, false] (by kernel_rfl) rfl rfl ⟨xC_ BK180.out 0, xC_ BK180.out 1, xC_ BK180.out 2, xC_ BK180.out 3, xC_ BK180.out 4⟩ (fun hHeld => ?_); refine with_tabW pantryref09_Words.tab14 pantryref09_Words.bits14 (fun HT_ HW_ => ?_)
                   generalize wr.drew = w57 at HO_181000 HO_181001 BK180 HB hHeld ⊢
                   refine pure_ (i := 0) (N := some 57) (v := ?_) (a' := ?_) #[true, false, false, false, false, false, false, false, false, false, false, false, false, false] rfl rfl (any_of HT_.out (by kernel_rfl)) (fun _ _ _ h => h) (Or.inl ⟨by rfl, ?_⟩) ?_ ?_
                   rotate_left
                   ·
                    intro w'
                    go_simp
                    with_reducible rfl
                   rotate_left
                   ·
                    simp only [Act.put, sA_, sZ_, sS_, i64_w, i32_w]
                    rfl
                   refine pure_ (i := 1) (N := some 58) (v := ?_) (a' := ?_) #[true, true, false, false, false, false, false, false, false, false, false, false, false, false] rfl rfl (any_of HT_.out (by kernel_rfl)) (fun _ _ _ h => h) (Or.inl ⟨by rfl, ?_⟩) ?_ ?_
                   rotate_left
                   ·
                    intro w'
                    go_simp
                    with_reducible rfl
                   rotate_left
                   ·
                    simp only [Act.put, sA_, sZ_, sS_, i64_w, i32_w]
                    rfl
                   refine pure_ (i := 2) (N := some 59) (v := ?_) (a' := ?_) #[true, true, true, false, false, false, false, false, false, false, false, false, false, false] rfl rfl (any_of HT_.out (by kernel_rfl)) (fun _ _ _ h => h) (Or.inl ⟨by rfl, ?_⟩) ?_ ?_
                   rotate_left
                   ·
                    intro w'
                    go_simp
                    with_reducible rfl
                   rotate_left
                   ·
                    simp only [Act.put, sA_, sZ_, sS_, i64_w, i32_w]
                    rfl
                   refine pure_ (i := 3) (N := some 60) (v := ?_) (a' := ?_) #[true, true, true, true, false, false, false, false, false, false, false, false, false, false] rfl rfl (any_of HT_.out (by kernel_rfl)) (fun _ _ _ h => h) (Or.inl ⟨by rfl, ?_⟩) ?_ ?_
                   rotate_left
                   ·
                    intro w'
                    go_simp
                    with_reducible rfl
                   rotate_left
                   ·
                    simp only [Act.put, sA_, sZ_, sS_, i64_w, i32_w]
                    rfl
                   refine pure_ (i := 5) (N := some 62) (v := ?_) (a' := ?_) #[true, true, true, true, false, true, false, false, false, false, false, false, false, false] rfl rfl (any_of HT_.out (by kernel_rfl)) (fun _ _ _ h => h) (Or.inl ⟨by rfl, ?_⟩) ?_ ?_
                   rotate_left
                   ·
                    intro w'
                    go_simp
                    with_reducible rfl
                   rotate_left
                   ·
                    simp only [Act.put, sA_, sZ_, sS_, i64_w, i32_w]
                    rfl
                   refine pure_ (i := 6) (N := some 63) (v := ?_) (a' := ?_) #[true, true, true, true, false, true, true, false, false, false, false, false, false, false] rfl rfl (any_of HT_.out (by kernel_rfl)) (fun _ _ _ h => h) (Or.inl ⟨by rfl, ?_⟩) ?_ ?_
                   rotate_left
                   ·
                    intro w'
                    go_simp
                    with_reducible rfl
                   rotate_left
                   ·
                    simp only [Act.put, sA_, sZ_, sS_, i64_w, i32_w]
                    rfl
                   refine pure_ (i := 7) (N := some 64) (v := ?_) (a' := ?_) #[true, true, true, true, false, true, true, true, false, false, false, false, false, false] rfl rfl (any_of HT_.out (by kernel_rfl)) (fun _ _ _ h => h) (Or.inl ⟨by rfl, ?_⟩) ?_ ?_
                   rotate_left
                   ·
                    intro w'
                    go_simp
                    with_reducible rfl
                   rotate_left
                   ·
                    simp only [Act.put, sA_, sZ_, sS_, i64_w, i32_w]
                    rfl
                   refine pure_ (i := 8) (N := some 65) (v := ?_) (a' := ?_) #[true, true, true, true, false, true, true, true, true, false, false, false, false, false] rfl rfl (any_of HT_.out (by kernel_rfl)) (fun _ _ _ h => h) (Or.inl ⟨by rfl, ?_⟩) ?_ ?_
                   rotate_left
                   ·
                    intro w'
                    go_simp
                    with_reducible rfl
                   rotate_left
                   ·
                    simp only [Act.put, sA_, sZ_, sS_, i64_w, i32_w]
                    rfl
                   refine take_ (i := 4) (N := some 61) (v := ?_) (a' := ?_) #[true, true, true, true, true, true, true, true, true, false, false, false, false, false] rfl rfl (take_ofW HT_.out HW_.out (by kernel_rfl)) (fun _ _ _ h => h) (Or.inl ⟨by rfl, ?_⟩) hHeld ?_ ?_
                   rotate_left
                   ·
                    rintro w' ⟨s0, s1, s2, s3, s4⟩
                    go_simp
                    with_reducible rfl
                   rotate_left
                   ·
                    simp only [Act.put, sA_, sZ_, sS_, i64_w, i32_w]
                    rfl
                   refine one_ (i := 9) (N := some 66) #[true, true, true, true, true, true, true, true, true, true, false, false, false, false] rfl rfl (one_of HT_.out (by kernel_rfl)) (by decide) (fun K hK => ?_)
                   refine value_ (w1 := ?_) (v := ?_) (by rfl) rfl ?_ ?_
                   rotate_left 2
                   ·
                    go_simp
                    constructor
                    ·
                     rfl
                    ·
                     rfl
                   refine hK.out _ _ ⟨(blk_cell (bA_ BK180.out _) 0).trans rfl, (blk_cell (bA_ BK180.out _) 1).trans rfl, (blk_cell (bA_ BK180.out _) 2).trans rfl, (blk_cell (bA_ BK180.out _) 3).trans rfl, (blk_cell (bA_ BK180.out _) 4).trans rfl⟩ (fun hHeld => ?_)
                   clear hK K
                   refine norm_ (a' := ?_) ?_ ?_
                   rotate_left
                   ·
                    show Act.put _ (some 66) _ = _
                    simp only [Act.put, sA_, sZ_, sS_, i64_w, i32_w]
                    rfl
                   refine one_ (i := 10) (N := some 67) #[true, true, true, true, true, true, true, true, true, true, true, false, false, false] rfl rfl (one_of HT_.out (by kernel_rfl)) (by decide) (fun K hK => ?_)
                   refine Kd.R_append_step Kd.string (w0 := w) w.heap.size (by rfl) (.tmp 61) (.tmp 66) 27 9 (.string ⟨#[]⟩) 16 rfl Tryd.underlying27 info9 rfl (by decide) (by omega) u181000 x181000_1 (a0.extract (x5_1 : Int).toNat (x5_3 : Int).toNat) [.string (a0.extract (x5_1 : Int).toNat (x5_3 : Int).toNat)] (fun _ => True) (fun _ => False) rfl rfl ?aP (fun _ hk => hk.elim) ?aF ?aO ?aB ?aS ?aL ?_
                   (case aP => exact rfl)
                   (case aB => exact W2_)
                   (case aF => exact (fun _ _ => trivial))
                   (case aO => exact (R1_ HO_181000.out))
                   (case aS => exact (below_size W2_))
                   (case aL => have := LMc55.out; omega)
                   intro v204 w58 ho hb hg hat
                   rw [← Ny203.out] at ho
                   have n0_ := Aside0.mk (Kd.R_over' (R1_ HO_181001.out) (Kd.R_typed (R1_ HO_181000.out)) (by decide) hg)
                   have n1_ := Aside0.mk (blk_grown (g := gb180) (o := .cells #[u181000, u181001, .int .i64 0, .int .i64 0, .int .i64 0] 45 (0, 0)) (B1_ BK180.out) hg (Kd.R_ne HO_181000.out BK180.out (by decide)))
                   have n2_ := Aside0.mk (hb)
                   have n3_ := Aside0.mk (ho)
                   clear HO_181001
                   clear BK180
                   clear HB
                   clear HO_181000
                   have HO_181001 := n0_
                   have BK180 := n1_
                   have HB := n2_
                   have HO205 := n3_
                   clear n0_ n1_ n2_ n3_
                   clear ho hb hg hat
                   obtain ⟨Ao59, co59, eo59⟩ := Kd.R_slice HO205.out
                   (first | subst eo59 | (injection eo59 with f1_ f2_ f3_; have f4_ := f1_.symm; have f5_ := f3_.symm; clear f1_ f2_ f3_; subst f4_; subst f5_))
                   refine hK.out _ _ ⟨xC_ BK180.out 0, xC_ BK180.out 1, xC_ BK180.out 2, xC_ BK180.out 3, xC_ BK180.out 4⟩ (fun hHeld => ?_)
                   clear hK K
                   refine norm_ (a' := ?_) ?_ ?_
                   rotate_left
                   ·
                    show Act.put _ (some 67) _ = _
                    simp only [Act.put, sA_, sZ_, sS_, i64_w, i32_w]
                    rfl
                   refine pure_ (i := 11) (N := some 68) (v := ?_) (a' := ?_) #[true, true, true, true, true, true, true, true, true, true, true, true, false, false] rfl rfl (any_of HT_.out (by kernel_rfl)) (fun _ _ _ h => h) (Or.inl ⟨by rfl, ?_⟩) ?_ ?_
                   rotate_left
                   ·
                    intro w'
                    go_simp
                    with_reducible rfl
                   rotate_left
                   ·
                    simp only [Act.put, sA_, sZ_, sS_, i64_w, i32_w]
                    rfl
                   refine pure_ (i := 12) (N := some 69) (v := ?_) (a' := ?_) #[true, true, true, true, true, true, true, true, true, true, true, true, true, false] rfl rfl (any_of HT_.out (by kernel_rfl)) (fun _ _ _ h => h) (Or.inl ⟨by rfl, ?_⟩) ?_ ?_
                   rotate_left
                   ·
                    intro w'
                    go_simp
                    with_reducible rfl
                   rotate_left
                   ·
                    simp only [Act.put, sA_, sZ_, sS_, i64_w, i32_w]
                    rfl
                   refine last_ (i := 13) (N := none) #[true, true, true, true, true, true, true, true, true, true, true, true, true, true] rfl rfl (one_of HT_.out (by kernel_rfl)) (by decide) (fun K hK => ?_)
                   have hs60 : w58.cell? ⟨gb180, 0, none⟩ = some (u181000) := xC_ BK180.out 0
                   have hfs60 := blk_frozen BK180.out 0
                   refine skip_ (w1 := ?_) (by rfl) rfl ?_ ?_
                   rotate_left
                   ·
                    go_simp
                    rfl
                   refine hK.out _ _ ?_
                   clear hK K
                   refine done_ (done_of HT_.out (by kernel_rfl)) ?_
                   obtain ⟨z61_0, z61_1, z61_2, z61_3, z61_4, y61_0, y61_1, y61_2, y61_3, y61_4⟩ := cz5_ BK180.out
                   try go_wp2_with (first | ((with_reducible refine gate_builtin (b := .append) (xs := #[.tmp 74, .tmp 76]) rfl ?_); at_builtin; refine Kd.R_append (Kd.int .i64) (w0 := w) w.heap.size rfl (.tmp 74) (.tmp 76) 41 3 (.int .i64 0) 8 rfl Tryd.underlying41 info3 rfl (by decide) (by omega) u181001 x181001_1 x4_11 [.int .i64 x4_11] (fun _ => True) (fun _ => False) rfl (by first | (go_simp; done) | (go_simp; rfl)) ?aP (fun _ hk => hk.elim) ?aF ?aO ?aB ?aS ?aL ?_; (case aP => exact rfl); (case aB => exact W2_); (case aF => exact (fun _ _ => trivial)); (case aO => exact (by refine R1_ ?_; exact Kd.R_mono (Kd.R_far (p := ⟨gb180, 0, none⟩) (Kd.R_types HO_181001.out BK180.out (by decide)) (fun _ hk => hk.2) (.slice Ao59 y203.length co59)) (fun _ hk => trivial))); (case aS => exact (below_size W2_)); (case aL => have := LMc56.out; omega); intro v207 w62 ho hb hg hat; rw [← Ny206.out] at ho; have n0_ := Aside0.mk (blk_grown (g := gb180) (o := .cells #[.slice Ao59 y203.length co59, u181001, .int .i64 0, .int .i64 0, .int .i64 0] 45 (0, 0)) (G1_ BK180.out) hg (Kd.R_ne HO_181001.out BK180.out (by decide))); have n1_ := Aside0.mk (Kd.R_over' (by refine R1_ ?_; exact (Kd.R_mono (Kd.R_far (p := ⟨gb180, 0, none⟩) (Kd.R_types HO205.out BK180.out (by decide)) (fun _ hk => hk.2) (.slice Ao59 y203.length co59)) (fun _ h_ => h_.1))) (Kd.R_typed (by refine R1_ ?_; exact (Kd.R_mono (Kd.R_far (p := ⟨gb180, 0, none⟩) (Kd.R_types HO_181001.out BK180.out (by decide)) (fun _ hk => hk.2) (.slice Ao59 y203.length co59)) (fun _ h_ => h_.1)))) (by decide) hg); have n2_ := Aside0.mk (hb); have n3_ := Aside0.mk (ho); clear BK180; clear HO205; clear HB; clear HO_181001; have BK180 := n0_; have HO205 := n1_; have HB := n2_; have HO208 := n3_; clear n0_ n1_ n2_ n3_; clear ho hb hg hat; obtain ⟨Ao63, co63, eo63⟩ := Kd.R_slice HO208.out; subst eo63; obtain ⟨z64_0, z64_1, z64_2, z64_3, z64_4, y64_0, y64_1, y64_2, y64_3, y64_4⟩ := cz5_ BK180.out))
                   go_roundg k3
                   case measure => have := HK1.out; have := HJ11.out; have := HK3.out; omega
                   case rel => exact ⟨(x4_11), (x5_3), (y203), (y206), (.slice Ao59 y203.length co59), (.slice Ao63 y206.length co63), E3_, E3_, H', ⟨by have := HK1.out; have := HJ11.out; have := HK3.out; omega⟩, ⟨by refine R1_ ?_; exact Kd.R_mono (Kd.R_far (p := ⟨gb180, 1, none⟩) (Kd.R_types HO205.out BK180.out (by decide)) (fun _ hk => hk.2) (.slice Ao63 y206.length co63)) (fun _ hk => trivial)⟩, ⟨by refine R1_ ?_; exact Kd.R_mono (Kd.R_far (p := ⟨gb180, 1, none⟩) (Kd.R_types HO208.out BK180.out (by decide)) (fun _ hk => hk.2) (.slice Ao63 y206.length co63)) (fun _ hk => trivial)⟩, ⟨G1_ BK180.out⟩, ⟨W2_⟩⟩
                  ·
                   rw [if_neg c56] at H
                   exact absurd H (by simp)
                 ·
                  rw [if_neg c55] at H
                  exact absurd H (by simp)
                ·
                 rw [if_neg c54] at H
                 exact absurd H (by simp)
               ·
                rw [if_neg c53] at H
                exact absurd H (by simp)
              ·
               rw [if_neg c52] at H
               exact absurd H (by simp)
          ·
           replace c18 := Bool.eq_false_iff.mpr c18
           subst c18
           rw [if_neg (show ¬ (false = true) by decide)] at H
           by_cases c66 : (bt a0 x5_1) = 123
           ·
            rw [if_pos c66] at H
            have c66b0 : ((bt a0 x5_1) == 123) = true := beq_iff_eq.mpr c66
            have c66b1 : ((bt a0 x5_1) != 123) = false := bne_eq_false_iff_eq.mpr c66
            clear c66
            have c67b0 := eq_true (oA_ : 0 ≤ x5_1)
            by_cases c68 : x5_1 ≤ (wrap64 (x5_1 + 1))
            ·
             rw [if_pos c68] at H
             have c68b0 := eq_true c68
             have c68b1 : decide (x5_1 ≤ (wrap64 (x5_1 + 1))) = true := decide_eq_true c68
             by_cases c69 : (wrap64 (x5_1 + 1)) ≤ (a0.size : Int)
             ·
              rw [if_pos c69] at H
              have c69b0 := eq_true c69
              have c69b1 : decide ((wrap64 (x5_1 + 1)) ≤ (a0.size : Int)) = true := decide_eq_true c69
              by_cases c70 : x181000_1.length < 8796093022208
              ·
               rw [if_pos c70] at H
               have LMc70 := Aside0.mk c70
               clear c70
               obtain ⟨y209, hy209⟩ : ∃ y_ : List ByteArray, y_ = (x181000_1 ++ [a0.extract (x5_1 : Int).toNat ((wrap64 (x5_1 + 1)) : Int).toNat]) := ⟨_, rfl⟩
               replace H : (if x181001_1.length < 17592186044416 then (pantryref09_Words.l0 kj11 a0 x4_11 (wrap64 (x5_1 + 1)) y209 (x181001_1 ++ [x4_11]) 0 0 0) else (none)) = some r := by first | (rw [hy209]; with_reducible exact H) | (have H2_ := (Option.bind_some _ _).symm.trans H; rw [hy209]; with_reducible exact H2_) | (have H2_ := (Option.bind_some _ _).symm.trans H; with_reducible exact H2_) | with_reducible exact H | (rw [hy209]; exact H) | exact H
               have Ny209 := Aside0.mk hy209
               clear hy209
               by_cases c71 : x181001_1.length < 17592186044416
               ·
                rw [if_pos c71] at H
                have LMc71 := Aside0.mk c71
                clear c71
                obtain ⟨y212, hy212⟩ : ∃ y_ : List Int, y_ = (x181001_1 ++ [x4_11]) := ⟨_, rfl⟩
                replace H : (pantryref09_Words.l0 kj11 a0 x4_11 (wrap64 (x5_1 + 1)) y209 y212 0 0 0) = some r := by first | (rw [hy212]; with_reducible exact H) | (have H2_ := (Option.bind_some _ _).symm.trans H; rw [hy212]; with_reducible exact H2_) | (have H2_ := (Option.bind_some _ _).symm.trans H; with_reducible exact H2_) | with_reducible exact H | (rw [hy212]; exact H) | exact H
                have Ny212 := Aside0.mk hy212
                clear hy212
                have H' := Aside0.mk H
                clear H
                have p16 : 0 ≤ (x5_1 : Int) := oA_
                have q16 : x5_1 < (a0.size : Int) := oA_
                have hx16 := bt_at a0 x5_1
                replace p16 := eq_true p16
                replace q16 := eq_true q16
                try go_wp2_with (first | ((with_reducible refine gate_callee (f := 21) rfl ?_); refine goesL_ (some 37) rfl rfl Tryd.func21 (by kernel_rfl) rfl #[.int .u8 (bt a0 x5_1)] rfl T1_ ?_; (with_reducible refine (pantryref09_plain.calls (bt a0 x5_1) false _ A17.out).mono ?_); rintro e w' ⟨rfl, ⟨nd, rfl⟩⟩; refine ⟨_, rfl, ?_⟩; (try (rw [drewN_self wc]; generalize hq_ : World.drewN wc _ = wc; have n0_ : Aside0 (Kd.R Kd.string 9 wc w.heap.size (fun _ => True) u181000 x181000_1) := ⟨by rw [← hq_]; exact (R1_ HO_181000.out)⟩; have n1_ : Aside0 (Kd.R (Kd.int .i64) 3 wc w.heap.size (fun _ => True) u181001 x181001_1) := ⟨by rw [← hq_]; exact (R1_ HO_181001.out)⟩; have n2_ : Aside0 (wc.heap[gb180]? = some (.cells #[u181000, u181001, .int .i64 0, .int .i64 0, .int .i64 0] 45 (0, 0))) := ⟨by rw [← hq_]; exact (B1_ BK180.out)⟩; have n3_ : Aside0 (Below w.heap.size w wc) := ⟨by rw [← hq_]; exact W2_⟩; clear HO_181000 HO_181001 BK180 HB hq_; have HO_181000 := n0_; have HO_181001 := n1_; have BK180 := n2_; have HB := n3_; clear n0_ n1_ n2_ n3_)); have p65 : 0 ≤ (x5_1 : Int) := oA_; have q65 : x5_1 < (a0.size : Int) := oA_; have hx65 := bt_at a0 x5_1; replace p65 := eq_true p65; replace q65 := eq_true q65))
                have n0_ := Aside0.mk (kD_ HO_181000.out)
                have n1_ := Aside0.mk (kD_ HO_181001.out)
                have n2_ := Aside0.mk (bD_ BK180.out)
                have n3_ := Aside0.mk (zD_ HB.out)
                clear HO_181000
                clear HO_181001
                clear BK180
                clear HB
                have HO_181000 := n0_
                have HO_181001 := n1_
                have BK180 := n2_
                have HB := n3_
                clear n0_ n1_ n2_ n3_
                refine start_ (n := 15) (S := fun w' => w'.cell? ⟨gb180, 0, none⟩ = some (u181000) ∧ w'.cell? ⟨gb180, 1, none⟩ = some (u181001) ∧ w'.cell? ⟨gb180, 2, none⟩ = some (.int .i64 0) ∧ w'.cell? ⟨gb180, 3, none⟩ = some (.int .i64 0) ∧ w'.cell? ⟨gb180, 4, none⟩ = some (.int .i64 0)) (ds := [14]) #[false, false, false, false, false, false, false, false, false, false, false, false, false, false, false] (by kernel_rfl) rfl rfl ⟨xC_ BK180.out 0, xC_ BK180.out 1, xC_ BK180.out 2, xC_ BK180.out 3, xC_ BK180.out 4⟩ (fun hHeld => ?_); refine with_tabW pantryref09_Words.tab17 pantryref09_Words.bits17 (fun HT_ HW_ => ?_)
                generalize wc.drew = w72 at HO_181000 HO_181001 BK180 HB hHeld ⊢
                refine pure_ (i := 0) (N := some 96) (v := ?_) (a' := ?_) #[true, false, false, false, false, false, false, false, false, false, false, false, false, false, false] rfl rfl (any_of HT_.out (by kernel_rfl)) (fun _ _ _ h => h) (Or.inl ⟨by rfl, ?_⟩) ?_ ?_
                rotate_left
                ·
                 intro w'
                 go_simp
                 with_reducible rfl
                rotate_left
                ·
                 simp only [Act.put, sA_, sZ_, sS_, i64_w, i32_w]
                 rfl
                refine pure_ (i := 1) (N := some 97) (v := ?_) (a' := ?_) #[true, true, false, false, false, false, false, false, false, false, false, false, false, false, false] rfl rfl (any_of HT_.out (by kernel_rfl)) (fun _ _ _ h => h) (Or.inl ⟨by rfl, ?_⟩) ?_ ?_
                rotate_left
                ·
                 intro w'
                 go_simp
                 with_reducible rfl
                rotate_left
                ·
                 simp only [Act.put, sA_, sZ_, sS_, i64_w, i32_w]
                 rfl
                refine pure_ (i := 2) (N := some 98) (v := ?_) (a' := ?_) #[true, true, true, false, false, false, false, false, false, false, false, false, false, false, false] rfl rfl (any_of HT_.out (by kernel_rfl)) (fun _ _ _ h => h) (Or.inl ⟨by rfl, ?_⟩) ?_ ?_
                rotate_left
                ·
                 intro w'
                 go_simp
                 with_reducible rfl
                rotate_left
                ·
                 simp only [Act.put, sA_, sZ_, sS_, i64_w, i32_w]
                 rfl
                refine pure_ (i := 3) (N := some 99) (v := ?_) (a' := ?_) #[true, true, true, true, false, false, false, false, false, false, false, false, false, false, false] rfl rfl (any_of HT_.out (by kernel_rfl)) (fun _ _ _ h => h) (Or.inl ⟨by rfl, ?_⟩) ?_ ?_
                rotate_left
                ·
                 intro w'
                 go_simp
                 with_reducible rfl
                rotate_left
                ·
                 simp only [Act.put, sA_, sZ_, sS_, i64_w, i32_w]
                 rfl
                refine pure_ (i := 5) (N := some 101) (v := ?_) (a' := ?_) #[true, true, true, true, false, true, false, false, false, false, false, false, false, false, false] rfl rfl (any_of HT_.out (by kernel_rfl)) (fun _ _ _ h => h) (Or.inl ⟨by rfl, ?_⟩) ?_ ?_
                rotate_left
                ·
                 intro w'
                 go_simp
                 with_reducible rfl
                rotate_left
                ·
                 simp only [Act.put, sA_, sZ_, sS_, i64_w, i32_w]
                 rfl
                refine pure_ (i := 6) (N := some 102) (v := ?_) (a' := ?_) #[true, true, true, true, false, true, true, false, false, false, false, false, false, false, false] rfl rfl (any_of HT_.out (by kernel_rfl)) (fun _ _ _ h => h) (Or.inl ⟨by rfl, ?_⟩) ?_ ?_
                rotate_left
                ·
                 intro w'
                 go_simp
                 with_reducible rfl
                rotate_left
                ·
                 simp only [Act.put, sA_, sZ_, sS_, i64_w, i32_w]
                 rfl
                refine pure_ (i := 7) (N := some 103) (v := ?_) (a' := ?_) #[true, true, true, true, false, true, true, true, false, false, false, false, false, false, false] rfl rfl (any_of HT_.out (by kernel_rfl)) (fun _ _ _ h => h) (Or.inl ⟨by rfl, ?_⟩) ?_ ?_
                rotate_left
                ·
                 intro w'
                 go_simp
                 with_reducible rfl
                rotate_left
                ·
                 simp only [Act.put, sA_, sZ_, sS_, i64_w, i32_w]
                 rfl
                refine pure_ (i := 8) (N := some 104) (v := ?_) (a' := ?_) #[true, true, true, true, false, true, true, true, true, false, false, false, false, false, false] rfl rfl (any_of HT_.out (by kernel_rfl)) (fun _ _ _ h => h) (Or.inl ⟨by rfl, ?_⟩) ?_ ?_
                rotate_left
                ·
                 intro w'
                 go_simp
                 with_reducible rfl
                rotate_left
                ·
                 simp only [Act.put, sA_, sZ_, sS_, i64_w, i32_w]
                 rfl
                refine pure_ (i := 9) (N := some 105) (v := ?_) (a' := ?_) #[true, true, true, true, false, true, true, true, true, true, false, false, false, false, false] rfl rfl (any_of HT_.out (by kernel_rfl)) (fun _ _ _ h => h) (Or.inl ⟨by rfl, ?_⟩) ?_ ?_
                rotate_left
                ·
                 intro w'
                 go_simp
                 with_reducible rfl
                rotate_left
                ·
                 simp only [Act.put, sA_, sZ_, sS_, i64_w, i32_w]
                 rfl
                refine take_ (i := 4) (N := some 100) (v := ?_) (a' := ?_) #[true, true, true, true, true, true, true, true, true, true, false, false, false, false, false] rfl rfl (take_ofW HT_.out HW_.out (by kernel_rfl)) (fun _ _ _ h => h) (Or.inl ⟨by rfl, ?_⟩) hHeld ?_ ?_
                rotate_left
                ·
                 rintro w' ⟨s0, s1, s2, s3, s4⟩
                 go_simp
                 with_reducible rfl
                rotate_left
                ·
                 simp only [Act.put, sA_, sZ_, sS_, i64_w, i32_w]
                 rfl
                refine one_ (i := 10) (N := some 106) #[true, true, true, true, true, true, true, true, true, true, true, false, false, false, false] rfl rfl (one_of HT_.out (by kernel_rfl)) (by decide) (fun K hK => ?_)
                refine value_ (w1 := ?_) (v := ?_) (by rfl) rfl ?_ ?_
                rotate_left 2
                ·
                 go_simp
                 constructor
                 ·
                  rfl
                 ·
                  rfl
                refine hK.out _ _ ⟨(blk_cell (bA_ BK180.out _) 0).trans rfl, (blk_cell (bA_ BK180.out _) 1).trans rfl, (blk_cell (bA_ BK180.out _) 2).trans rfl, (blk_cell (bA_ BK180.out _) 3).trans rfl, (blk_cell (bA_ BK180.out _) 4).trans rfl⟩ (fun hHeld => ?_)
                clear hK K
                refine norm_ (a' := ?_) ?_ ?_
                rotate_left
                ·
                 show Act.put _ (some 106) _ = _
                 simp only [Act.put, sA_, sZ_, sS_, i64_w, i32_w]
                 rfl
                refine one_ (i := 11) (N := some 107) #[true, true, true, true, true, true, true, true, true, true, true, true, false, false, false] rfl rfl (one_of HT_.out (by kernel_rfl)) (by decide) (fun K hK => ?_)
                refine Kd.R_append_step Kd.string (w0 := w) w.heap.size (by rfl) (.tmp 100) (.tmp 106) 27 9 (.string ⟨#[]⟩) 16 rfl Tryd.underlying27 info9 rfl (by decide) (by omega) u181000 x181000_1 (a0.extract (x5_1 : Int).toNat ((wrap64 (x5_1 + 1)) : Int).toNat) [.string (a0.extract (x5_1 : Int).toNat ((wrap64 (x5_1 + 1)) : Int).toNat)] (fun _ => True) (fun _ => False) rfl rfl ?aP (fun _ hk => hk.elim) ?aF ?aO ?aB ?aS ?aL ?_
                (case aP => exact rfl)
                (case aB => exact W2_)
                (case aF => exact (fun _ _ => trivial))
                (case aO => exact (R1_ HO_181000.out))
                (case aS => exact (below_size W2_))
                (case aL => have := LMc70.out; omega)
                intro v210 w73 ho hb hg hat
                rw [← Ny209.out] at ho
                have n0_ := Aside0.mk (Kd.R_over' (R1_ HO_181001.out) (Kd.R_typed (R1_ HO_181000.out)) (by decide) hg)
                have n1_ := Aside0.mk (blk_grown (g := gb180) (o := .cells #[u181000, u181001, .int .i64 0, .int .i64 0, .int .i64 0] 45 (0, 0)) (B1_ BK180.out) hg (Kd.R_ne HO_181000.out BK180.out (by decide)))
                have n2_ := Aside0.mk (hb)
                have n3_ := Aside0.mk (ho)
                clear HO_181001
                clear BK180
                clear HB
                clear HO_181000
                have HO_181001 := n0_
                have BK180 := n1_
                have HB := n2_
                have HO211 := n3_
                clear n0_ n1_ n2_ n3_
                clear ho hb hg hat
                obtain ⟨Ao74, co74, eo74⟩ := Kd.R_slice HO211.out
                (first | subst eo74 | (injection eo74 with f1_ f2_ f3_; have f4_ := f1_.symm; have f5_ := f3_.symm; clear f1_ f2_ f3_; subst f4_; subst f5_))
                refine hK.out _ _ ⟨xC_ BK180.out 0, xC_ BK180.out 1, xC_ BK180.out 2, xC_ BK180.out 3, xC_ BK180.out 4⟩ (fun hHeld => ?_)
                clear hK K
                refine norm_ (a' := ?_) ?_ ?_
                rotate_left
                ·
                 show Act.put _ (some 107) _ = _
                 simp only [Act.put, sA_, sZ_, sS_, i64_w, i32_w]
                 rfl
                refine pure_ (i := 12) (N := some 108) (v := ?_) (a' := ?_) #[true, true, true, true, true, true, true, true, true, true, true, true, true, false, false] rfl rfl (any_of HT_.out (by kernel_rfl)) (fun _ _ _ h => h) (Or.inl ⟨by rfl, ?_⟩) ?_ ?_
                rotate_left
                ·
                 intro w'
                 go_simp
                 with_reducible rfl
                rotate_left
                ·
                 simp only [Act.put, sA_, sZ_, sS_, i64_w, i32_w]
                 rfl
                refine pure_ (i := 13) (N := some 109) (v := ?_) (a' := ?_) #[true, true, true, true, true, true, true, true, true, true, true, true, true, true, false] rfl rfl (any_of HT_.out (by kernel_rfl)) (fun _ _ _ h => h) (Or.inl ⟨by rfl, ?_⟩) ?_ ?_
                rotate_left
                ·
                 intro w'
                 go_simp
                 with_reducible rfl
                rotate_left
                ·
                 simp only [Act.put, sA_, sZ_, sS_, i64_w, i32_w]
                 rfl
                refine last_ (i := 14) (N := none) #[true, true, true, true, true, true, true, true, true, true, true, true, true, true, true] rfl rfl (one_of HT_.out (by kernel_rfl)) (by decide) (fun K hK => ?_)
                have hs75 : w73.cell? ⟨gb180, 0, none⟩ = some (u181000) := xC_ BK180.out 0
                have hfs75 := blk_frozen BK180.out 0
                refine skip_ (w1 := ?_) (by rfl) rfl ?_ ?_
                rotate_left
                ·
                 go_simp
                 rfl
                refine hK.out _ _ ?_
                clear hK K
                refine done_ (done_of HT_.out (by kernel_rfl)) ?_
                obtain ⟨z76_0, z76_1, z76_2, z76_3, z76_4, y76_0, y76_1, y76_2, y76_3, y76_4⟩ := cz5_ BK180.out
                try go_wp2_with (first | ((with_reducible refine gate_builtin (b := .append) (xs := #[.tmp 114, .tmp 116]) rfl ?_); at_builtin; refine Kd.R_append (Kd.int .i64) (w0 := w) w.heap.size rfl (.tmp 114) (.tmp 116) 41 3 (.int .i64 0) 8 rfl Tryd.underlying41 info3 rfl (by decide) (by omega) u181001 x181001_1 x4_11 [.int .i64 x4_11] (fun _ => True) (fun _ => False) rfl (by first | (go_simp; done) | (go_simp; rfl)) ?aP (fun _ hk => hk.elim) ?aF ?aO ?aB ?aS ?aL ?_; (case aP => exact rfl); (case aB => exact W2_); (case aF => exact (fun _ _ => trivial)); (case aO => exact (by refine R1_ ?_; exact Kd.R_mono (Kd.R_far (p := ⟨gb180, 0, none⟩) (Kd.R_types HO_181001.out BK180.out (by decide)) (fun _ hk => hk.2) (.slice Ao74 y209.length co74)) (fun _ hk => trivial))); (case aS => exact (below_size W2_)); (case aL => have := LMc71.out; omega); intro v213 w77 ho hb hg hat; rw [← Ny212.out] at ho; have n0_ := Aside0.mk (blk_grown (g := gb180) (o := .cells #[.slice Ao74 y209.length co74, u181001, .int .i64 0, .int .i64 0, .int .i64 0] 45 (0, 0)) (G1_ BK180.out) hg (Kd.R_ne HO_181001.out BK180.out (by decide))); have n1_ := Aside0.mk (Kd.R_over' (by refine R1_ ?_; exact (Kd.R_mono (Kd.R_far (p := ⟨gb180, 0, none⟩) (Kd.R_types HO211.out BK180.out (by decide)) (fun _ hk => hk.2) (.slice Ao74 y209.length co74)) (fun _ h_ => h_.1))) (Kd.R_typed (by refine R1_ ?_; exact (Kd.R_mono (Kd.R_far (p := ⟨gb180, 0, none⟩) (Kd.R_types HO_181001.out BK180.out (by decide)) (fun _ hk => hk.2) (.slice Ao74 y209.length co74)) (fun _ h_ => h_.1)))) (by decide) hg); have n2_ := Aside0.mk (hb); have n3_ := Aside0.mk (ho); clear BK180; clear HO211; clear HB; clear HO_181001; have BK180 := n0_; have HO211 := n1_; have HB := n2_; have HO214 := n3_; clear n0_ n1_ n2_ n3_; clear ho hb hg hat; obtain ⟨Ao78, co78, eo78⟩ := Kd.R_slice HO214.out; subst eo78; obtain ⟨z79_0, z79_1, z79_2, z79_3, z79_4, y79_0, y79_1, y79_2, y79_3, y79_4⟩ := cz5_ BK180.out))
                go_roundg kj11
                case measure => have := HK1.out; have := HJ11.out; omega
                case rel => exact ⟨(x4_11), (wrap64 (x5_1 + 1)), (y209), (y212), (.slice Ao74 y209.length co74), (.slice Ao78 y212.length co78), E3_, E3_, H', ⟨by have := HK1.out; have := HJ11.out; omega⟩, ⟨by refine R1_ ?_; exact Kd.R_mono (Kd.R_far (p := ⟨gb180, 1, none⟩) (Kd.R_types HO211.out BK180.out (by decide)) (fun _ hk => hk.2) (.slice Ao78 y212.length co78)) (fun _ hk => trivial)⟩, ⟨by refine R1_ ?_; exact Kd.R_mono (Kd.R_far (p := ⟨gb180, 1, none⟩) (Kd.R_types HO214.out BK180.out (by decide)) (fun _ hk => hk.2) (.slice Ao78 y212.length co78)) (fun _ hk => trivial)⟩, ⟨G1_ BK180.out⟩, ⟨W2_⟩⟩
               ·
                rw [if_neg c71] at H
                exact absurd H (by simp)
              ·
               rw [if_neg c70] at H
               exact absurd H (by simp)
             ·
              rw [if_neg c69] at H
              exact absurd H (by simp)
            ·
             rw [if_neg c68] at H
             exact absurd H (by simp)
           ·
            rw [if_neg c66] at H
            have c66b0 : ((bt a0 x5_1) == 123) = false := beq_eq_false_iff_ne.mpr c66
            have c66b1 : ((bt a0 x5_1) != 123) = true := bne_iff_ne.mpr c66
            by_cases c81 : (bt a0 x5_1) = 125
            ·
             rw [if_pos c81] at H
             have c81b0 : ((bt a0 x5_1) == 125) = true := beq_iff_eq.mpr c81
             have c81b1 : ((bt a0 x5_1) != 125) = false := bne_eq_false_iff_eq.mpr c81
             clear c81
             have c82b0 := eq_true (oA_ : 0 ≤ x5_1)
             by_cases c83 : x5_1 ≤ (wrap64 (x5_1 + 1))
             ·
              rw [if_pos c83] at H
              have c83b0 := eq_true c83
              have c83b1 : decide (x5_1 ≤ (wrap64 (x5_1 + 1))) = true := decide_eq_true c83
              by_cases c84 : (wrap64 (x5_1 + 1)) ≤ (a0.size : Int)
              ·
               rw [if_pos c84] at H
               have c84b0 := eq_true c84
               have c84b1 : decide ((wrap64 (x5_1 + 1)) ≤ (a0.size : Int)) = true := decide_eq_true c84
               by_cases c85 : x181000_1.length < 8796093022208
               ·
                rw [if_pos c85] at H
                have LMc85 := Aside0.mk c85
                clear c85
                obtain ⟨y215, hy215⟩ : ∃ y_ : List ByteArray, y_ = (x181000_1 ++ [a0.extract (x5_1 : Int).toNat ((wrap64 (x5_1 + 1)) : Int).toNat]) := ⟨_, rfl⟩
                replace H : (if x181001_1.length < 17592186044416 then (pantryref09_Words.l0 kj11 a0 x4_11 (wrap64 (x5_1 + 1)) y215 (x181001_1 ++ [x4_11]) 0 0 0) else (none)) = some r := by first | (rw [hy215]; with_reducible exact H) | (have H2_ := (Option.bind_some _ _).symm.trans H; rw [hy215]; with_reducible exact H2_) | (have H2_ := (Option.bind_some _ _).symm.trans H; with_reducible exact H2_) | with_reducible exact H | (rw [hy215]; exact H) | exact H
                have Ny215 := Aside0.mk hy215
                clear hy215
                by_cases c86 : x181001_1.length < 17592186044416
                ·
                 rw [if_pos c86] at H
                 have LMc86 := Aside0.mk c86
                 clear c86
                 obtain ⟨y218, hy218⟩ : ∃ y_ : List Int, y_ = (x181001_1 ++ [x4_11]) := ⟨_, rfl⟩
                 replace H : (pantryref09_Words.l0 kj11 a0 x4_11 (wrap64 (x5_1 + 1)) y215 y218 0 0 0) = some r := by first | (rw [hy218]; with_reducible exact H) | (have H2_ := (Option.bind_some _ _).symm.trans H; rw [hy218]; with_reducible exact H2_) | (have H2_ := (Option.bind_some _ _).symm.trans H; with_reducible exact H2_) | with_reducible exact H | (rw [hy218]; exact H) | exact H
                 have Ny218 := Aside0.mk hy218
                 clear hy218
                 have H' := Aside0.mk H
                 clear H
                 have p16 : 0 ≤ (x5_1 : Int) := oA_
                 have q16 : x5_1 < (a0.size : Int) := oA_
                 have hx16 := bt_at a0 x5_1
                 replace p16 := eq_true p16
                 replace q16 := eq_true q16
                 try go_wp2_with (first | ((with_reducible refine gate_callee (f := 21) rfl ?_); refine goesL_ (some 37) rfl rfl Tryd.func21 (by kernel_rfl) rfl #[.int .u8 (bt a0 x5_1)] rfl T1_ ?_; (with_reducible refine (pantryref09_plain.calls (bt a0 x5_1) false _ A17.out).mono ?_); rintro e w' ⟨rfl, ⟨nd, rfl⟩⟩; refine ⟨_, rfl, ?_⟩; (try (rw [drewN_self wc]; generalize hq_ : World.drewN wc _ = wc; have n0_ : Aside0 (Kd.R Kd.string 9 wc w.heap.size (fun _ => True) u181000 x181000_1) := ⟨by rw [← hq_]; exact (R1_ HO_181000.out)⟩; have n1_ : Aside0 (Kd.R (Kd.int .i64) 3 wc w.heap.size (fun _ => True) u181001 x181001_1) := ⟨by rw [← hq_]; exact (R1_ HO_181001.out)⟩; have n2_ : Aside0 (wc.heap[gb180]? = some (.cells #[u181000, u181001, .int .i64 0, .int .i64 0, .int .i64 0] 45 (0, 0))) := ⟨by rw [← hq_]; exact (B1_ BK180.out)⟩; have n3_ : Aside0 (Below w.heap.size w wc) := ⟨by rw [← hq_]; exact W2_⟩; clear HO_181000 HO_181001 BK180 HB hq_; have HO_181000 := n0_; have HO_181001 := n1_; have BK180 := n2_; have HB := n3_; clear n0_ n1_ n2_ n3_)); have p65 : 0 ≤ (x5_1 : Int) := oA_; have q65 : x5_1 < (a0.size : Int) := oA_; have hx65 := bt_at a0 x5_1; replace p65 := eq_true p65; replace q65 := eq_true q65; have p80 : 0 ≤ (x5_1 : Int) := oA_; have q80 : x5_1 < (a0.size : Int) := oA_; have hx80 := bt_at a0 x5_1; replace p80 := eq_true p80; replace q80 := eq_true q80))
                 have n0_ := Aside0.mk (kD_ HO_181000.out)
                 have n1_ := Aside0.mk (kD_ HO_181001.out)
                 have n2_ := Aside0.mk (bD_ BK180.out)
                 have n3_ := Aside0.mk (zD_ HB.out)
                 clear HO_181000
                 clear HO_181001
                 clear BK180
                 clear HB
                 have HO_181000 := n0_
                 have HO_181001 := n1_
                 have BK180 := n2_
                 have HB := n3_
                 clear n0_ n1_ n2_ n3_
                 refine start_ (n := 15) (S := fun w' => w'.cell? ⟨gb180, 0, none⟩ = some (u181000) ∧ w'.cell? ⟨gb180, 1, none⟩ = some (u181001) ∧ w'.cell? ⟨gb180, 2, none⟩ = some (.int .i64 0) ∧ w'.cell? ⟨gb180, 3, none⟩ = some (.int .i64 0) ∧ w'.cell? ⟨gb180, 4, none⟩ = some (.int .i64 0)) (ds := [14]) #[false, false, false, false, false, false, false, false, false, false, false, false, false, false, false] (by kernel_rfl) rfl rfl ⟨xC_ BK180.out 0, xC_ BK180.out 1, xC_ BK180.out 2, xC_ BK180.out 3, xC_ BK180.out 4⟩ (fun hHeld => ?_); refine with_tabW pantryref09_Words.tab17 pantryref09_Words.bits17 (fun HT_ HW_ => ?_)
                 generalize wc.drew = w87 at HO_181000 HO_181001 BK180 HB hHeld ⊢
                 refine pure_ (i := 0) (N := some 96) (v := ?_) (a' := ?_) #[true, false, false, false, false, false, false, false, false, false, false, false, false, false, false] rfl rfl (any_of HT_.out (by kernel_rfl)) (fun _ _ _ h => h) (Or.inl ⟨by rfl, ?_⟩) ?_ ?_
                 rotate_left
                 ·
                  intro w'
                  go_simp
                  with_reducible rfl
                 rotate_left
                 ·
                  simp only [Act.put, sA_, sZ_, sS_, i64_w, i32_w]
                  rfl
                 refine pure_ (i := 1) (N := some 97) (v := ?_) (a' := ?_) #[true, true, false, false, false, false, false, false, false, false, false, false, false, false, false] rfl rfl (any_of HT_.out (by kernel_rfl)) (fun _ _ _ h => h) (Or.inl ⟨by rfl, ?_⟩) ?_ ?_
                 rotate_left
                 ·
                  intro w'
                  go_simp
                  with_reducible rfl
                 rotate_left
                 ·
                  simp only [Act.put, sA_, sZ_, sS_, i64_w, i32_w]
                  rfl
                 refine pure_ (i := 2) (N := some 98) (v := ?_) (a' := ?_) #[true, true, true, false, false, false, false, false, false, false, false, false, false, false, false] rfl rfl (any_of HT_.out (by kernel_rfl)) (fun _ _ _ h => h) (Or.inl ⟨by rfl, ?_⟩) ?_ ?_
                 rotate_left
                 ·
                  intro w'
                  go_simp
                  with_reducible rfl
                 rotate_left
                 ·
                  simp only [Act.put, sA_, sZ_, sS_, i64_w, i32_w]
                  rfl
                 refine pure_ (i := 3) (N := some 99) (v := ?_) (a' := ?_) #[true, true, true, true, false, false, false, false, false, false, false, false, false, false, false] rfl rfl (any_of HT_.out (by kernel_rfl)) (fun _ _ _ h => h) (Or.inl ⟨by rfl, ?_⟩) ?_ ?_
                 rotate_left
                 ·
                  intro w'
                  go_simp
                  with_reducible rfl
                 rotate_left
                 ·
                  simp only [Act.put, sA_, sZ_, sS_, i64_w, i32_w]
                  rfl
                 refine pure_ (i := 5) (N := some 101) (v := ?_) (a' := ?_) #[true, true, true, true, false, true, false, false, false, false, false, false, false, false, false] rfl rfl (any_of HT_.out (by kernel_rfl)) (fun _ _ _ h => h) (Or.inl ⟨by rfl, ?_⟩) ?_ ?_
                 rotate_left
                 ·
                  intro w'
                  go_simp
                  with_reducible rfl
                 rotate_left
                 ·
                  simp only [Act.put, sA_, sZ_, sS_, i64_w, i32_w]
                  rfl
                 refine pure_ (i := 6) (N := some 102) (v := ?_) (a' := ?_) #[true, true, true, true, false, true, true, false, false, false, false, false, false, false, false] rfl rfl (any_of HT_.out (by kernel_rfl)) (fun _ _ _ h => h) (Or.inl ⟨by rfl, ?_⟩) ?_ ?_
                 rotate_left
                 ·
                  intro w'
                  go_simp
                  with_reducible rfl
                 rotate_left
                 ·
                  simp only [Act.put, sA_, sZ_, sS_, i64_w, i32_w]
                  rfl
                 refine pure_ (i := 7) (N := some 103) (v := ?_) (a' := ?_) #[true, true, true, true, false, true, true, true, false, false, false, false, false, false, false] rfl rfl (any_of HT_.out (by kernel_rfl)) (fun _ _ _ h => h) (Or.inl ⟨by rfl, ?_⟩) ?_ ?_
                 rotate_left
                 ·
                  intro w'
                  go_simp
                  with_reducible rfl
                 rotate_left
                 ·
                  simp only [Act.put, sA_, sZ_, sS_, i64_w, i32_w]
                  rfl
                 refine pure_ (i := 8) (N := some 104) (v := ?_) (a' := ?_) #[true, true, true, true, false, true, true, true, true, false, false, false, false, false, false] rfl rfl (any_of HT_.out (by kernel_rfl)) (fun _ _ _ h => h) (Or.inl ⟨by rfl, ?_⟩) ?_ ?_
                 rotate_left
                 ·
                  intro w'
                  go_simp
                  with_reducible rfl
                 rotate_left
                 ·
                  simp only [Act.put, sA_, sZ_, sS_, i64_w, i32_w]
                  rfl
                 refine pure_ (i := 9) (N := some 105) (v := ?_) (a' := ?_) #[true, true, true, true, false, true, true, true, true, true, false, false, false, false, false] rfl rfl (any_of HT_.out (by kernel_rfl)) (fun _ _ _ h => h) (Or.inl ⟨by rfl, ?_⟩) ?_ ?_
                 rotate_left
                 ·
                  intro w'
                  go_simp
                  with_reducible rfl
                 rotate_left
                 ·
                  simp only [Act.put, sA_, sZ_, sS_, i64_w, i32_w]
                  rfl
                 refine take_ (i := 4) (N := some 100) (v := ?_) (a' := ?_) #[true, true, true, true, true, true, true, true, true, true, false, false, false, false, false] rfl rfl (take_ofW HT_.out HW_.out (by kernel_rfl)) (fun _ _ _ h => h) (Or.inl ⟨by rfl, ?_⟩) hHeld ?_ ?_
                 rotate_left
                 ·
                  rintro w' ⟨s0, s1, s2, s3, s4⟩
                  go_simp
                  with_reducible rfl
                 rotate_left
                 ·
                  simp only [Act.put, sA_, sZ_, sS_, i64_w, i32_w]
                  rfl
                 refine one_ (i := 10) (N := some 106) #[true, true, true, true, true, true, true, true, true, true, true, false, false, false, false] rfl rfl (one_of HT_.out (by kernel_rfl)) (by decide) (fun K hK => ?_)
                 refine value_ (w1 := ?_) (v := ?_) (by rfl) rfl ?_ ?_
                 rotate_left 2
                 ·
                  go_simp
                  constructor
                  ·
                   rfl
                  ·
                   rfl
                 refine hK.out _ _ ⟨(blk_cell (bA_ BK180.out _) 0).trans rfl, (blk_cell (bA_ BK180.out _) 1).trans rfl, (blk_cell (bA_ BK180.out _) 2).trans rfl, (blk_cell (bA_ BK180.out _) 3).trans rfl, (blk_cell (bA_ BK180.out _) 4).trans rfl⟩ (fun hHeld => ?_)
                 clear hK K
                 refine norm_ (a' := ?_) ?_ ?_
                 rotate_left
                 ·
                  show Act.put _ (some 106) _ = _
                  simp only [Act.put, sA_, sZ_, sS_, i64_w, i32_w]
                  rfl
                 refine one_ (i := 11) (N := some 107) #[true, true, true, true, true, true, true, true, true, true, true, true, false, false, false] rfl rfl (one_of HT_.out (by kernel_rfl)) (by decide) (fun K hK => ?_)
                 refine Kd.R_append_step Kd.string (w0 := w) w.heap.size (by rfl) (.tmp 100) (.tmp 106) 27 9 (.string ⟨#[]⟩) 16 rfl Tryd.underlying27 info9 rfl (by decide) (by omega) u181000 x181000_1 (a0.extract (x5_1 : Int).toNat ((wrap64 (x5_1 + 1)) : Int).toNat) [.string (a0.extract (x5_1 : Int).toNat ((wrap64 (x5_1 + 1)) : Int).toNat)] (fun _ => True) (fun _ => False) rfl rfl ?aP (fun _ hk => hk.elim) ?aF ?aO ?aB ?aS ?aL ?_
                 (case aP => exact rfl)
                 (case aB => exact W2_)
                 (case aF => exact (fun _ _ => trivial))
                 (case aO => exact (R1_ HO_181000.out))
                 (case aS => exact (below_size W2_))
                 (case aL => have := LMc85.out; omega)
                 intro v216 w88 ho hb hg hat
                 rw [← Ny215.out] at ho
                 have n0_ := Aside0.mk (Kd.R_over' (R1_ HO_181001.out) (Kd.R_typed (R1_ HO_181000.out)) (by decide) hg)
                 have n1_ := Aside0.mk (blk_grown (g := gb180) (o := .cells #[u181000, u181001, .int .i64 0, .int .i64 0, .int .i64 0] 45 (0, 0)) (B1_ BK180.out) hg (Kd.R_ne HO_181000.out BK180.out (by decide)))
                 have n2_ := Aside0.mk (hb)
                 have n3_ := Aside0.mk (ho)
                 clear HO_181001
                 clear BK180
                 clear HB
                 clear HO_181000
                 have HO_181001 := n0_
                 have BK180 := n1_
                 have HB := n2_
                 have HO217 := n3_
                 clear n0_ n1_ n2_ n3_
                 clear ho hb hg hat
                 obtain ⟨Ao89, co89, eo89⟩ := Kd.R_slice HO217.out
                 (first | subst eo89 | (injection eo89 with f1_ f2_ f3_; have f4_ := f1_.symm; have f5_ := f3_.symm; clear f1_ f2_ f3_; subst f4_; subst f5_))
                 refine hK.out _ _ ⟨xC_ BK180.out 0, xC_ BK180.out 1, xC_ BK180.out 2, xC_ BK180.out 3, xC_ BK180.out 4⟩ (fun hHeld => ?_)
                 clear hK K
                 refine norm_ (a' := ?_) ?_ ?_
                 rotate_left
                 ·
                  show Act.put _ (some 107) _ = _
                  simp only [Act.put, sA_, sZ_, sS_, i64_w, i32_w]
                  rfl
                 refine pure_ (i := 12) (N := some 108) (v := ?_) (a' := ?_) #[true, true, true, true, true, true, true, true, true, true, true, true, true, false, false] rfl rfl (any_of HT_.out (by kernel_rfl)) (fun _ _ _ h => h) (Or.inl ⟨by rfl, ?_⟩) ?_ ?_
                 rotate_left
                 ·
                  intro w'
                  go_simp
                  with_reducible rfl
                 rotate_left
                 ·
                  simp only [Act.put, sA_, sZ_, sS_, i64_w, i32_w]
                  rfl
                 refine pure_ (i := 13) (N := some 109) (v := ?_) (a' := ?_) #[true, true, true, true, true, true, true, true, true, true, true, true, true, true, false] rfl rfl (any_of HT_.out (by kernel_rfl)) (fun _ _ _ h => h) (Or.inl ⟨by rfl, ?_⟩) ?_ ?_
                 rotate_left
                 ·
                  intro w'
                  go_simp
                  with_reducible rfl
                 rotate_left
                 ·
                  simp only [Act.put, sA_, sZ_, sS_, i64_w, i32_w]
                  rfl
                 refine last_ (i := 14) (N := none) #[true, true, true, true, true, true, true, true, true, true, true, true, true, true, true] rfl rfl (one_of HT_.out (by kernel_rfl)) (by decide) (fun K hK => ?_)
                 have hs90 : w88.cell? ⟨gb180, 0, none⟩ = some (u181000) := xC_ BK180.out 0
                 have hfs90 := blk_frozen BK180.out 0
                 refine skip_ (w1 := ?_) (by rfl) rfl ?_ ?_
                 rotate_left
                 ·
                  go_simp
                  rfl
                 refine hK.out _ _ ?_
                 clear hK K
                 refine done_ (done_of HT_.out (by kernel_rfl)) ?_
                 obtain ⟨z91_0, z91_1, z91_2, z91_3, z91_4, y91_0, y91_1, y91_2, y91_3, y91_4⟩ := cz5_ BK180.out
                 try go_wp2_with (first | ((with_reducible refine gate_builtin (b := .append) (xs := #[.tmp 114, .tmp 116]) rfl ?_); at_builtin; refine Kd.R_append (Kd.int .i64) (w0 := w) w.heap.size rfl (.tmp 114) (.tmp 116) 41 3 (.int .i64 0) 8 rfl Tryd.underlying41 info3 rfl (by decide) (by omega) u181001 x181001_1 x4_11 [.int .i64 x4_11] (fun _ => True) (fun _ => False) rfl (by first | (go_simp; done) | (go_simp; rfl)) ?aP (fun _ hk => hk.elim) ?aF ?aO ?aB ?aS ?aL ?_; (case aP => exact rfl); (case aB => exact W2_); (case aF => exact (fun _ _ => trivial)); (case aO => exact (by refine R1_ ?_; exact Kd.R_mono (Kd.R_far (p := ⟨gb180, 0, none⟩) (Kd.R_types HO_181001.out BK180.out (by decide)) (fun _ hk => hk.2) (.slice Ao89 y215.length co89)) (fun _ hk => trivial))); (case aS => exact (below_size W2_)); (case aL => have := LMc86.out; omega); intro v219 w92 ho hb hg hat; rw [← Ny218.out] at ho; have n0_ := Aside0.mk (blk_grown (g := gb180) (o := .cells #[.slice Ao89 y215.length co89, u181001, .int .i64 0, .int .i64 0, .int .i64 0] 45 (0, 0)) (G1_ BK180.out) hg (Kd.R_ne HO_181001.out BK180.out (by decide))); have n1_ := Aside0.mk (Kd.R_over' (by refine R1_ ?_; exact (Kd.R_mono (Kd.R_far (p := ⟨gb180, 0, none⟩) (Kd.R_types HO217.out BK180.out (by decide)) (fun _ hk => hk.2) (.slice Ao89 y215.length co89)) (fun _ h_ => h_.1))) (Kd.R_typed (by refine R1_ ?_; exact (Kd.R_mono (Kd.R_far (p := ⟨gb180, 0, none⟩) (Kd.R_types HO_181001.out BK180.out (by decide)) (fun _ hk => hk.2) (.slice Ao89 y215.length co89)) (fun _ h_ => h_.1)))) (by decide) hg); have n2_ := Aside0.mk (hb); have n3_ := Aside0.mk (ho); clear BK180; clear HO217; clear HB; clear HO_181001; have BK180 := n0_; have HO217 := n1_; have HB := n2_; have HO220 := n3_; clear n0_ n1_ n2_ n3_; clear ho hb hg hat; obtain ⟨Ao93, co93, eo93⟩ := Kd.R_slice HO220.out; subst eo93; obtain ⟨z94_0, z94_1, z94_2, z94_3, z94_4, y94_0, y94_1, y94_2, y94_3, y94_4⟩ := cz5_ BK180.out))
                 go_roundg kj11
                 case measure => have := HK1.out; have := HJ11.out; omega
                 case rel => exact ⟨(x4_11), (wrap64 (x5_1 + 1)), (y215), (y218), (.slice Ao89 y215.length co89), (.slice Ao93 y218.length co93), E3_, E3_, H', ⟨by have := HK1.out; have := HJ11.out; omega⟩, ⟨by refine R1_ ?_; exact Kd.R_mono (Kd.R_far (p := ⟨gb180, 1, none⟩) (Kd.R_types HO217.out BK180.out (by decide)) (fun _ hk => hk.2) (.slice Ao93 y218.length co93)) (fun _ hk => trivial)⟩, ⟨by refine R1_ ?_; exact Kd.R_mono (Kd.R_far (p := ⟨gb180, 1, none⟩) (Kd.R_types HO220.out BK180.out (by decide)) (fun _ hk => hk.2) (.slice Ao93 y218.length co93)) (fun _ hk => trivial)⟩, ⟨G1_ BK180.out⟩, ⟨W2_⟩⟩
                ·
                 rw [if_neg c86] at H
                 exact absurd H (by simp)
               ·
                rw [if_neg c85] at H
                exact absurd H (by simp)
              ·
               rw [if_neg c84] at H
               exact absurd H (by simp)
             ·
              rw [if_neg c83] at H
              exact absurd H (by simp)
            ·
             rw [if_neg c81] at H
             have c81b0 : ((bt a0 x5_1) == 125) = false := beq_eq_false_iff_ne.mpr c81
             have c81b1 : ((bt a0 x5_1) != 125) = true := bne_iff_ne.mpr c81
             by_cases c96 : (bt a0 x5_1) = 59
             ·
              rw [if_pos c96] at H
              have c96b0 : ((bt a0 x5_1) == 59) = true := beq_iff_eq.mpr c96
              have c96b1 : ((bt a0 x5_1) != 59) = false := bne_eq_false_iff_eq.mpr c96
              clear c96
              have c97b0 := eq_true (oA_ : 0 ≤ x5_1)
              by_cases c98 : x5_1 ≤ (wrap64 (x5_1 + 1))
              ·
               rw [if_pos c98] at H
               have c98b0 := eq_true c98
               have c98b1 : decide (x5_1 ≤ (wrap64 (x5_1 + 1))) = true := decide_eq_true c98
               by_cases c99 : (wrap64 (x5_1 + 1)) ≤ (a0.size : Int)
               ·
                rw [if_pos c99] at H
                have c99b0 := eq_true c99
                have c99b1 : decide ((wrap64 (x5_1 + 1)) ≤ (a0.size : Int)) = true := decide_eq_true c99
                by_cases c100 : x181000_1.length < 8796093022208
                ·
                 rw [if_pos c100] at H
                 have LMc100 := Aside0.mk c100
                 clear c100
                 obtain ⟨y221, hy221⟩ : ∃ y_ : List ByteArray, y_ = (x181000_1 ++ [a0.extract (x5_1 : Int).toNat ((wrap64 (x5_1 + 1)) : Int).toNat]) := ⟨_, rfl⟩
                 replace H : (if x181001_1.length < 17592186044416 then (pantryref09_Words.l0 kj11 a0 x4_11 (wrap64 (x5_1 + 1)) y221 (x181001_1 ++ [x4_11]) 0 0 0) else (none)) = some r := by first | (rw [hy221]; with_reducible exact H) | (have H2_ := (Option.bind_some _ _).symm.trans H; rw [hy221]; with_reducible exact H2_) | (have H2_ := (Option.bind_some _ _).symm.trans H; with_reducible exact H2_) | with_reducible exact H | (rw [hy221]; exact H) | exact H
                 have Ny221 := Aside0.mk hy221
                 clear hy221
                 by_cases c101 : x181001_1.length < 17592186044416
                 ·
                  rw [if_pos c101] at H
                  have LMc101 := Aside0.mk c101
                  clear c101
                  obtain ⟨y224, hy224⟩ : ∃ y_ : List Int, y_ = (x181001_1 ++ [x4_11]) := ⟨_, rfl⟩
                  replace H : (pantryref09_Words.l0 kj11 a0 x4_11 (wrap64 (x5_1 + 1)) y221 y224 0 0 0) = some r := by first | (rw [hy224]; with_reducible exact H) | (have H2_ := (Option.bind_some _ _).symm.trans H; rw [hy224]; with_reducible exact H2_) | (have H2_ := (Option.bind_some _ _).symm.trans H; with_reducible exact H2_) | with_reducible exact H | (rw [hy224]; exact H) | exact H
                  have Ny224 := Aside0.mk hy224
                  clear hy224
                  have H' := Aside0.mk H
                  clear H
                  have p16 : 0 ≤ (x5_1 : Int) := oA_
                  have q16 : x5_1 < (a0.size : Int) := oA_
                  have hx16 := bt_at a0 x5_1
                  replace p16 := eq_true p16
                  replace q16 := eq_true q16
                  try go_wp2_with (first | ((with_reducible refine gate_callee (f := 21) rfl ?_); refine goesL_ (some 37) rfl rfl Tryd.func21 (by kernel_rfl) rfl #[.int .u8 (bt a0 x5_1)] rfl T1_ ?_; (with_reducible refine (pantryref09_plain.calls (bt a0 x5_1) false _ A17.out).mono ?_); rintro e w' ⟨rfl, ⟨nd, rfl⟩⟩; refine ⟨_, rfl, ?_⟩; (try (rw [drewN_self wc]; generalize hq_ : World.drewN wc _ = wc; have n0_ : Aside0 (Kd.R Kd.string 9 wc w.heap.size (fun _ => True) u181000 x181000_1) := ⟨by rw [← hq_]; exact (R1_ HO_181000.out)⟩; have n1_ : Aside0 (Kd.R (Kd.int .i64) 3 wc w.heap.size (fun _ => True) u181001 x181001_1) := ⟨by rw [← hq_]; exact (R1_ HO_181001.out)⟩; have n2_ : Aside0 (wc.heap[gb180]? = some (.cells #[u181000, u181001, .int .i64 0, .int .i64 0, .int .i64 0] 45 (0, 0))) := ⟨by rw [← hq_]; exact (B1_ BK180.out)⟩; have n3_ : Aside0 (Below w.heap.size w wc) := ⟨by rw [← hq_]; exact W2_⟩; clear HO_181000 HO_181001 BK180 HB hq_; have HO_181000 := n0_; have HO_181001 := n1_; have BK180 := n2_; have HB := n3_; clear n0_ n1_ n2_ n3_)); have p65 : 0 ≤ (x5_1 : Int) := oA_; have q65 : x5_1 < (a0.size : Int) := oA_; have hx65 := bt_at a0 x5_1; replace p65 := eq_true p65; replace q65 := eq_true q65; have p80 : 0 ≤ (x5_1 : Int) := oA_; have q80 : x5_1 < (a0.size : Int) := oA_; have hx80 := bt_at a0 x5_1; replace p80 := eq_true p80; replace q80 := eq_true q80; have p95 : 0 ≤ (x5_1 : Int) := oA_; have q95 : x5_1 < (a0.size : Int) := oA_; have hx95 := bt_at a0 x5_1; replace p95 := eq_true p95; replace q95 := eq_true q95))
                  have n0_ := Aside0.mk (kD_ HO_181000.out)
                  have n1_ := Aside0.mk (kD_ HO_181001.out)
                  have n2_ := Aside0.mk (bD_ BK180.out)
                  have n3_ := Aside0.mk (zD_ HB.out)
                  clear HO_181000
                  clear HO_181001
                  clear BK180
                  clear HB
                  have HO_181000 := n0_
                  have HO_181001 := n1_
                  have BK180 := n2_
                  have HB := n3_
                  clear n0_ n1_ n2_ n3_
                  refine start_ (n := 15) (S := fun w' => w'.cell? ⟨gb180, 0, none⟩ = some (u181000) ∧ w'.cell? ⟨gb180, 1, none⟩ = some (u181001) ∧ w'.cell? ⟨gb180, 2, none⟩ = some (.int .i64 0) ∧ w'.cell? ⟨gb180, 3, none⟩ = some (.int .i64 0) ∧ w'.cell? ⟨gb180, 4, none⟩ = some (.int .i64 0)) (ds := [14]) #[false, false, false, false, false, false, false, false, false, false, false, false, false, false, false] (by kernel_rfl) rfl rfl ⟨xC_ BK180.out 0, xC_ BK180.out 1, xC_ BK180.out 2, xC_ BK180.out 3, xC_ BK180.out 4⟩ (fun hHeld => ?_); refine with_tabW pantryref09_Words.tab17 pantryref09_Words.bits17 (fun HT_ HW_ => ?_)
                  generalize wc.drew = w102 at HO_181000 HO_181001 BK180 HB hHeld ⊢
                  refine pure_ (i := 0) (N := some 96) (v := ?_) (a' := ?_) #[true, false, false, false, false, false, false, false, false, false, false, false, false, false, false] rfl rfl (any_of HT_.out (by kernel_rfl)) (fun _ _ _ h => h) (Or.inl ⟨by rfl, ?_⟩) ?_ ?_
                  rotate_left
                  ·
                   intro w'
                   go_simp
                   with_reducible rfl
                  rotate_left
                  ·
                   simp only [Act.put, sA_, sZ_, sS_, i64_w, i32_w]
                   rfl
                  refine pure_ (i := 1) (N := some 97) (v := ?_) (a' := ?_) #[true, true, false, false, false, false, false, false, false, false, false, false, false, false, false] rfl rfl (any_of HT_.out (by kernel_rfl)) (fun _ _ _ h => h) (Or.inl ⟨by rfl, ?_⟩) ?_ ?_
                  rotate_left
                  ·
                   intro w'
                   go_simp
                   with_reducible rfl
                  rotate_left
                  ·
                   simp only [Act.put, sA_, sZ_, sS_, i64_w, i32_w]
                   rfl
                  refine pure_ (i := 2) (N := some 98) (v := ?_) (a' := ?_) #[true, true, true, false, false, false, false, false, false, false, false, false, false, false, false] rfl rfl (any_of HT_.out (by kernel_rfl)) (fun _ _ _ h => h) (Or.inl ⟨by rfl, ?_⟩) ?_ ?_
                  rotate_left
                  ·
                   intro w'
                   go_simp
                   with_reducible rfl
                  rotate_left
                  ·
                   simp only [Act.put, sA_, sZ_, sS_, i64_w, i32_w]
                   rfl
                  refine pure_ (i := 3) (N := some 99) (v := ?_) (a' := ?_) #[true, true, true, true, false, false, false, false, false, false, false, false, false, false, false] rfl rfl (any_of HT_.out (by kernel_rfl)) (fun _ _ _ h => h) (Or.inl ⟨by rfl, ?_⟩) ?_ ?_
                  rotate_left
                  ·
                   intro w'
                   go_simp
                   with_reducible rfl
                  rotate_left
                  ·
                   simp only [Act.put, sA_, sZ_, sS_, i64_w, i32_w]
                   rfl
                  refine pure_ (i := 5) (N := some 101) (v := ?_) (a' := ?_) #[true, true, true, true, false, true, false, false, false, false, false, false, false, false, false] rfl rfl (any_of HT_.out (by kernel_rfl)) (fun _ _ _ h => h) (Or.inl ⟨by rfl, ?_⟩) ?_ ?_
                  rotate_left
                  ·
                   intro w'
                   go_simp
                   with_reducible rfl
                  rotate_left
                  ·
                   simp only [Act.put, sA_, sZ_, sS_, i64_w, i32_w]
                   rfl
                  refine pure_ (i := 6) (N := some 102) (v := ?_) (a' := ?_) #[true, true, true, true, false, true, true, false, false, false, false, false, false, false, false] rfl rfl (any_of HT_.out (by kernel_rfl)) (fun _ _ _ h => h) (Or.inl ⟨by rfl, ?_⟩) ?_ ?_
                  rotate_left
                  ·
                   intro w'
                   go_simp
                   with_reducible rfl
                  rotate_left
                  ·
                   simp only [Act.put, sA_, sZ_, sS_, i64_w, i32_w]
                   rfl
                  refine pure_ (i := 7) (N := some 103) (v := ?_) (a' := ?_) #[true, true, true, true, false, true, true, true, false, false, false, false, false, false, false] rfl rfl (any_of HT_.out (by kernel_rfl)) (fun _ _ _ h => h) (Or.inl ⟨by rfl, ?_⟩) ?_ ?_
                  rotate_left
                  ·
                   intro w'
                   go_simp
                   with_reducible rfl
                  rotate_left
                  ·
                   simp only [Act.put, sA_, sZ_, sS_, i64_w, i32_w]
                   rfl
                  refine pure_ (i := 8) (N := some 104) (v := ?_) (a' := ?_) #[true, true, true, true, false, true, true, true, true, false, false, false, false, false, false] rfl rfl (any_of HT_.out (by kernel_rfl)) (fun _ _ _ h => h) (Or.inl ⟨by rfl, ?_⟩) ?_ ?_
                  rotate_left
                  ·
                   intro w'
                   go_simp
                   with_reducible rfl
                  rotate_left
                  ·
                   simp only [Act.put, sA_, sZ_, sS_, i64_w, i32_w]
                   rfl
                  refine pure_ (i := 9) (N := some 105) (v := ?_) (a' := ?_) #[true, true, true, true, false, true, true, true, true, true, false, false, false, false, false] rfl rfl (any_of HT_.out (by kernel_rfl)) (fun _ _ _ h => h) (Or.inl ⟨by rfl, ?_⟩) ?_ ?_
                  rotate_left
                  ·
                   intro w'
                   go_simp
                   with_reducible rfl
                  rotate_left
                  ·
                   simp only [Act.put, sA_, sZ_, sS_, i64_w, i32_w]
                   rfl
                  refine take_ (i := 4) (N := some 100) (v := ?_) (a' := ?_) #[true, true, true, true, true, true, true, true, true, true, false, false, false, false, false] rfl rfl (take_ofW HT_.out HW_.out (by kernel_rfl)) (fun _ _ _ h => h) (Or.inl ⟨by rfl, ?_⟩) hHeld ?_ ?_
                  rotate_left
                  ·
                   rintro w' ⟨s0, s1, s2, s3, s4⟩
                   go_simp
                   with_reducible rfl
                  rotate_left
                  ·
                   simp only [Act.put, sA_, sZ_, sS_, i64_w, i32_w]
                   rfl
                  refine one_ (i := 10) (N := some 106) #[true, true, true, true, true, true, true, true, true, true, true, false, false, false, false] rfl rfl (one_of HT_.out (by kernel_rfl)) (by decide) (fun K hK => ?_)
                  refine value_ (w1 := ?_) (v := ?_) (by rfl) rfl ?_ ?_
                  rotate_left 2
                  ·
                   go_simp
                   constructor
                   ·
                    rfl
                   ·
                    rfl
                  refine hK.out _ _ ⟨(blk_cell (bA_ BK180.out _) 0).trans rfl, (blk_cell (bA_ BK180.out _) 1).trans rfl, (blk_cell (bA_ BK180.out _) 2).trans rfl, (blk_cell (bA_ BK180.out _) 3).trans rfl, (blk_cell (bA_ BK180.out _) 4).trans rfl⟩ (fun hHeld => ?_)
                  clear hK K
                  refine norm_ (a' := ?_) ?_ ?_
                  rotate_left
                  ·
                   show Act.put _ (some 106) _ = _
                   simp only [Act.put, sA_, sZ_, sS_, i64_w, i32_w]
                   rfl
                  refine one_ (i := 11) (N := some 107) #[true, true, true, true, true, true, true, true, true, true, true, true, false, false, false] rfl rfl (one_of HT_.out (by kernel_rfl)) (by decide) (fun K hK => ?_)
                  refine Kd.R_append_step Kd.string (w0 := w) w.heap.size (by rfl) (.tmp 100) (.tmp 106) 27 9 (.string ⟨#[]⟩) 16 rfl Tryd.underlying27 info9 rfl (by decide) (by omega) u181000 x181000_1 (a0.extract (x5_1 : Int).toNat ((wrap64 (x5_1 + 1)) : Int).toNat) [.string (a0.extract (x5_1 : Int).toNat ((wrap64 (x5_1 + 1)) : Int).toNat)] (fun _ => True) (fun _ => False) rfl rfl ?aP (fun _ hk => hk.elim) ?aF ?aO ?aB ?aS ?aL ?_
                  (case aP => exact rfl)
                  (case aB => exact W2_)
                  (case aF => exact (fun _ _ => trivial))
                  (case aO => exact (R1_ HO_181000.out))
                  (case aS => exact (below_size W2_))
                  (case aL => have := LMc100.out; omega)
                  intro v222 w103 ho hb hg hat
                  rw [← Ny221.out] at ho
                  have n0_ := Aside0.mk (Kd.R_over' (R1_ HO_181001.out) (Kd.R_typed (R1_ HO_181000.out)) (by decide) hg)
                  have n1_ := Aside0.mk (blk_grown (g := gb180) (o := .cells #[u181000, u181001, .int .i64 0, .int .i64 0, .int .i64 0] 45 (0, 0)) (B1_ BK180.out) hg (Kd.R_ne HO_181000.out BK180.out (by decide)))
                  have n2_ := Aside0.mk (hb)
                  have n3_ := Aside0.mk (ho)
                  clear HO_181001
                  clear BK180
                  clear HB
                  clear HO_181000
                  have HO_181001 := n0_
                  have BK180 := n1_
                  have HB := n2_
                  have HO223 := n3_
                  clear n0_ n1_ n2_ n3_
                  clear ho hb hg hat
                  obtain ⟨Ao104, co104, eo104⟩ := Kd.R_slice HO223.out
                  (first | subst eo104 | (injection eo104 with f1_ f2_ f3_; have f4_ := f1_.symm; have f5_ := f3_.symm; clear f1_ f2_ f3_; subst f4_; subst f5_))
                  refine hK.out _ _ ⟨xC_ BK180.out 0, xC_ BK180.out 1, xC_ BK180.out 2, xC_ BK180.out 3, xC_ BK180.out 4⟩ (fun hHeld => ?_)
                  clear hK K
                  refine norm_ (a' := ?_) ?_ ?_
                  rotate_left
                  ·
                   show Act.put _ (some 107) _ = _
                   simp only [Act.put, sA_, sZ_, sS_, i64_w, i32_w]
                   rfl
                  refine pure_ (i := 12) (N := some 108) (v := ?_) (a' := ?_) #[true, true, true, true, true, true, true, true, true, true, true, true, true, false, false] rfl rfl (any_of HT_.out (by kernel_rfl)) (fun _ _ _ h => h) (Or.inl ⟨by rfl, ?_⟩) ?_ ?_
                  rotate_left
                  ·
                   intro w'
                   go_simp
                   with_reducible rfl
                  rotate_left
                  ·
                   simp only [Act.put, sA_, sZ_, sS_, i64_w, i32_w]
                   rfl
                  refine pure_ (i := 13) (N := some 109) (v := ?_) (a' := ?_) #[true, true, true, true, true, true, true, true, true, true, true, true, true, true, false] rfl rfl (any_of HT_.out (by kernel_rfl)) (fun _ _ _ h => h) (Or.inl ⟨by rfl, ?_⟩) ?_ ?_
                  rotate_left
                  ·
                   intro w'
                   go_simp
                   with_reducible rfl
                  rotate_left
                  ·
                   simp only [Act.put, sA_, sZ_, sS_, i64_w, i32_w]
                   rfl
                  refine last_ (i := 14) (N := none) #[true, true, true, true, true, true, true, true, true, true, true, true, true, true, true] rfl rfl (one_of HT_.out (by kernel_rfl)) (by decide) (fun K hK => ?_)
                  have hs105 : w103.cell? ⟨gb180, 0, none⟩ = some (u181000) := xC_ BK180.out 0
                  have hfs105 := blk_frozen BK180.out 0
                  refine skip_ (w1 := ?_) (by rfl) rfl ?_ ?_
                  rotate_left
                  ·
                   go_simp
                   rfl
                  refine hK.out _ _ ?_
                  clear hK K
                  refine done_ (done_of HT_.out (by kernel_rfl)) ?_
                  obtain ⟨z106_0, z106_1, z106_2, z106_3, z106_4, y106_0, y106_1, y106_2, y106_3, y106_4⟩ := cz5_ BK180.out
                  try go_wp2_with (first | ((with_reducible refine gate_builtin (b := .append) (xs := #[.tmp 114, .tmp 116]) rfl ?_); at_builtin; refine Kd.R_append (Kd.int .i64) (w0 := w) w.heap.size rfl (.tmp 114) (.tmp 116) 41 3 (.int .i64 0) 8 rfl Tryd.underlying41 info3 rfl (by decide) (by omega) u181001 x181001_1 x4_11 [.int .i64 x4_11] (fun _ => True) (fun _ => False) rfl (by first | (go_simp; done) | (go_simp; rfl)) ?aP (fun _ hk => hk.elim) ?aF ?aO ?aB ?aS ?aL ?_; (case aP => exact rfl); (case aB => exact W2_); (case aF => exact (fun _ _ => trivial)); (case aO => exact (by refine R1_ ?_; exact Kd.R_mono (Kd.R_far (p := ⟨gb180, 0, none⟩) (Kd.R_types HO_181001.out BK180.out (by decide)) (fun _ hk => hk.2) (.slice Ao104 y221.length co104)) (fun _ hk => trivial))); (case aS => exact (below_size W2_)); (case aL => have := LMc101.out; omega); intro v225 w107 ho hb hg hat; rw [← Ny224.out] at ho; have n0_ := Aside0.mk (blk_grown (g := gb180) (o := .cells #[.slice Ao104 y221.length co104, u181001, .int .i64 0, .int .i64 0, .int .i64 0] 45 (0, 0)) (G1_ BK180.out) hg (Kd.R_ne HO_181001.out BK180.out (by decide))); have n1_ := Aside0.mk (Kd.R_over' (by refine R1_ ?_; exact (Kd.R_mono (Kd.R_far (p := ⟨gb180, 0, none⟩) (Kd.R_types HO223.out BK180.out (by decide)) (fun _ hk => hk.2) (.slice Ao104 y221.length co104)) (fun _ h_ => h_.1))) (Kd.R_typed (by refine R1_ ?_; exact (Kd.R_mono (Kd.R_far (p := ⟨gb180, 0, none⟩) (Kd.R_types HO_181001.out BK180.out (by decide)) (fun _ hk => hk.2) (.slice Ao104 y221.length co104)) (fun _ h_ => h_.1)))) (by decide) hg); have n2_ := Aside0.mk (hb); have n3_ := Aside0.mk (ho); clear BK180; clear HO223; clear HB; clear HO_181001; have BK180 := n0_; have HO223 := n1_; have HB := n2_; have HO226 := n3_; clear n0_ n1_ n2_ n3_; clear ho hb hg hat; obtain ⟨Ao108, co108, eo108⟩ := Kd.R_slice HO226.out; subst eo108; obtain ⟨z109_0, z109_1, z109_2, z109_3, z109_4, y109_0, y109_1, y109_2, y109_3, y109_4⟩ := cz5_ BK180.out))
                  go_roundg kj11
                  case measure => have := HK1.out; have := HJ11.out; omega
                  case rel => exact ⟨(x4_11), (wrap64 (x5_1 + 1)), (y221), (y224), (.slice Ao104 y221.length co104), (.slice Ao108 y224.length co108), E3_, E3_, H', ⟨by have := HK1.out; have := HJ11.out; omega⟩, ⟨by refine R1_ ?_; exact Kd.R_mono (Kd.R_far (p := ⟨gb180, 1, none⟩) (Kd.R_types HO223.out BK180.out (by decide)) (fun _ hk => hk.2) (.slice Ao108 y224.length co108)) (fun _ hk => trivial)⟩, ⟨by refine R1_ ?_; exact Kd.R_mono (Kd.R_far (p := ⟨gb180, 1, none⟩) (Kd.R_types HO226.out BK180.out (by decide)) (fun _ hk => hk.2) (.slice Ao108 y224.length co108)) (fun _ hk => trivial)⟩, ⟨G1_ BK180.out⟩, ⟨W2_⟩⟩
                 ·
                  rw [if_neg c101] at H
                  exact absurd H (by simp)
                ·
                 rw [if_neg c100] at H
                 exact absurd H (by simp)
               ·
                rw [if_neg c99] at H
                exact absurd H (by simp)
              ·
               rw [if_neg c98] at H
               exact absurd H (by simp)
             ·
              rw [if_neg c96] at H
              have c96b0 : ((bt a0 x5_1) == 59) = false := beq_eq_false_iff_ne.mpr c96
              have c96b1 : ((bt a0 x5_1) != 59) = true := bne_iff_ne.mpr c96
              have H' := Aside0.mk H
              clear H
              have p16 : 0 ≤ (x5_1 : Int) := oA_
              have q16 : x5_1 < (a0.size : Int) := oA_
              have hx16 := bt_at a0 x5_1
              replace p16 := eq_true p16
              replace q16 := eq_true q16
              go_wp2_with (first | ((with_reducible refine gate_callee (f := 21) rfl ?_); refine goesL_ (some 37) rfl rfl Tryd.func21 (by kernel_rfl) rfl #[.int .u8 (bt a0 x5_1)] rfl T1_ ?_; (with_reducible refine (pantryref09_plain.calls (bt a0 x5_1) false _ A17.out).mono ?_); rintro e w' ⟨rfl, ⟨nd, rfl⟩⟩; refine ⟨_, rfl, ?_⟩; have p65 : 0 ≤ (x5_1 : Int) := oA_; have q65 : x5_1 < (a0.size : Int) := oA_; have hx65 := bt_at a0 x5_1; replace p65 := eq_true p65; replace q65 := eq_true q65; have p80 : 0 ≤ (x5_1 : Int) := oA_; have q80 : x5_1 < (a0.size : Int) := oA_; have hx80 := bt_at a0 x5_1; replace p80 := eq_true p80; replace q80 := eq_true q80; have p95 : 0 ≤ (x5_1 : Int) := oA_; have q95 : x5_1 < (a0.size : Int) := oA_; have hx95 := bt_at a0 x5_1; replace p95 := eq_true p95; replace q95 := eq_true q95))
              go_roundg kj11
              case measure => have := HK1.out; have := HJ11.out; omega
              case rel => exact ⟨(x4_11), (wrap64 (x5_1 + 1)), (x181000_1), (x181001_1), (u181000), (u181001), E3_, E3_, H', ⟨by have := HK1.out; have := HJ11.out; omega⟩, ⟨R1_ HO_181000.out⟩, ⟨R1_ HO_181001.out⟩, ⟨B1_ BK180.out⟩, ⟨W2_⟩⟩
         ·
          rw [if_neg c15] at H
          exact absurd H (by simp)
        ·
         rw [if_neg c14] at H
         exact absurd H (by simp)
     ·
      rw [if_neg c10] at H
      exact absurd H (by simp)
   ·
    rw [if_neg c3] at H
    have c3b0 : decide (x5_1 < (a0.size : Int)) = false := decide_eq_false c3
    clear c3
    by_cases c110 : x181000_1.length < 8796093022208
    ·
     rw [if_pos c110] at H
     have LMc110 := Aside0.mk c110
     clear c110
     obtain ⟨y181, hy181⟩ : ∃ y_ : List ByteArray, y_ = (x181000_1 ++ [(⟨#[]⟩ : ByteArray)]) := ⟨_, rfl⟩
     replace H : (if x181001_1.length < 17592186044416 then (some y181) else (none)) = some r := by first | (rw [hy181]; with_reducible exact H) | (have H2_ := (Option.bind_some _ _).symm.trans H; rw [hy181]; with_reducible exact H2_) | (have H2_ := (Option.bind_some _ _).symm.trans H; with_reducible exact H2_) | with_reducible exact H | (rw [hy181]; exact H) | exact H
     have Ny181 := Aside0.mk hy181
     clear hy181
     by_cases c111 : x181001_1.length < 17592186044416
     ·
      rw [if_pos c111] at H
      have LMc111 := Aside0.mk c111
      clear c111
      obtain ⟨y184, hy184⟩ : ∃ y_ : List Int, y_ = (x181001_1 ++ [x4_1]) := ⟨_, rfl⟩
      replace H : (some y181) = some r := by first | (rw [hy184]; with_reducible exact H) | (have H2_ := (Option.bind_some _ _).symm.trans H; rw [hy184]; with_reducible exact H2_) | (have H2_ := (Option.bind_some _ _).symm.trans H; with_reducible exact H2_) | with_reducible exact H | (rw [hy184]; exact H) | exact H
      have Ny184 := Aside0.mk hy184
      clear hy184
      obtain rfl := Option.some.inj H
      obtain ⟨z112_0, z112_1, z112_2, z112_3, z112_4, y112_0, y112_1, y112_2, y112_3, y112_4⟩ := cz5_ BK180.out
      go_wp2_with (first | ((with_reducible refine gate_builtin (b := .append) (xs := #[.tmp 126, .tmp 127]) rfl ?_); at_builtin; refine Kd.R_append Kd.string (w0 := w) w.heap.size rfl (.tmp 126) (.tmp 127) 27 9 (.string ⟨#[]⟩) 16 rfl Tryd.underlying27 info9 rfl (by decide) (by omega) u181000 x181000_1 (⟨#[]⟩ : ByteArray) [.string (⟨#[]⟩ : ByteArray)] (fun _ => True) (fun _ => False) rfl rfl ?aP (fun _ hk => hk.elim) ?aF ?aO ?aB ?aS ?aL ?_; (case aP => exact rfl); (case aB => exact W2_); (case aF => exact (fun _ _ => trivial)); (case aO => exact (R1_ HO_181000.out)); (case aS => exact (below_size W2_)); (case aL => have := LMc110.out; omega); intro v182 w113 ho hb hg hat; rw [← Ny181.out] at ho; have n0_ := Aside0.mk (Kd.R_over' (R1_ HO_181001.out) (Kd.R_typed (R1_ HO_181000.out)) (by decide) hg); have n1_ := Aside0.mk (blk_grown (g := gb180) (o := .cells #[u181000, u181001, .int .i64 0, .int .i64 0, .int .i64 0] 45 (0, 0)) (B1_ BK180.out) hg (Kd.R_ne HO_181000.out BK180.out (by decide))); have n2_ := Aside0.mk (hb); have n3_ := Aside0.mk (ho); clear HO_181001; clear BK180; clear HB; clear HO_181000; have HO_181001 := n0_; have BK180 := n1_; have HB := n2_; have HO183 := n3_; clear n0_ n1_ n2_ n3_; clear ho hb hg hat; obtain ⟨Ao114, co114, eo114⟩ := Kd.R_slice HO183.out; subst eo114; obtain ⟨z115_0, z115_1, z115_2, z115_3, z115_4, y115_0, y115_1, y115_2, y115_3, y115_4⟩ := cz5_ BK180.out) | ((with_reducible refine gate_builtin (b := .append) (xs := #[.tmp 135, .tmp 137]) rfl ?_); at_builtin; refine Kd.R_append (Kd.int .i64) (w0 := w) w.heap.size rfl (.tmp 135) (.tmp 137) 41 3 (.int .i64 0) 8 rfl Tryd.underlying41 info3 rfl (by decide) (by omega) u181001 x181001_1 x4_1 [.int .i64 x4_1] (fun _ => True) (fun _ => False) rfl (by first | (go_simp; done) | (go_simp; rfl)) ?aP (fun _ hk => hk.elim) ?aF ?aO ?aB ?aS ?aL ?_; (case aP => exact rfl); (case aB => exact W2_); (case aF => exact (fun _ _ => trivial)); (case aO => exact (by refine R1_ ?_; exact Kd.R_mono (Kd.R_far (p := ⟨gb180, 0, none⟩) (Kd.R_types HO_181001.out BK180.out (by decide)) (fun _ hk => hk.2) (.slice Ao114 y181.length co114)) (fun _ hk => trivial))); (case aS => exact (below_size W2_)); (case aL => have := LMc111.out; omega); intro v185 w116 ho hb hg hat; rw [← Ny184.out] at ho; have n0_ := Aside0.mk (blk_grown (g := gb180) (o := .cells #[.slice Ao114 y181.length co114, u181001, .int .i64 0, .int .i64 0, .int .i64 0] 45 (0, 0)) (G1_ BK180.out) hg (Kd.R_ne HO_181001.out BK180.out (by decide))); have n1_ := Aside0.mk (Kd.R_over' (by refine R1_ ?_; exact (Kd.R_mono (Kd.R_far (p := ⟨gb180, 0, none⟩) (Kd.R_types HO183.out BK180.out (by decide)) (fun _ hk => hk.2) (.slice Ao114 y181.length co114)) (fun _ h_ => h_.1))) (Kd.R_typed (by refine R1_ ?_; exact (Kd.R_mono (Kd.R_far (p := ⟨gb180, 0, none⟩) (Kd.R_types HO_181001.out BK180.out (by decide)) (fun _ hk => hk.2) (.slice Ao114 y181.length co114)) (fun _ h_ => h_.1)))) (by decide) hg); have n2_ := Aside0.mk (hb); have n3_ := Aside0.mk (ho); clear BK180; clear HO183; clear HB; clear HO_181001; have BK180 := n0_; have HO183 := n1_; have HB := n2_; have HO186 := n3_; clear n0_ n1_ n2_ n3_; clear ho hb hg hat; obtain ⟨Ao117, co117, eo117⟩ := Kd.R_slice HO186.out; subst eo117; obtain ⟨z118_0, z118_1, z118_2, z118_3, z118_4, y118_0, y118_1, y118_2, y118_3, y118_4⟩ := cz5_ BK180.out))
      go_ret
      exact ⟨gb180, E1_, .slice Ao114 y181.length co114, (blk_cell (show (_ : Option Obj) = some (.cells #[.slice Ao114 y181.length co114, .slice Ao117 y184.length co117, .int .i64 0, .int .i64 0, .int .i64 0] 45 (0, 0)) from by refine B1_ ?_; refine blk_put (cs := #[.slice Ao114 y181.length co114, u181001, .int .i64 0, .int .i64 0, .int .i64 0]) ?_ 1 _ rfl; refine B1_ ?_; exact BK180.out) 0).trans rfl, by refine R1_ ?_; exact Kd.R_mono (Kd.R_far (p := ⟨gb180, 1, none⟩) (Kd.R_types HO183.out BK180.out (by decide)) (fun _ hk => hk.2) (.slice Ao117 y184.length co117)) (fun _ hk => trivial), W2_⟩
     ·
      rw [if_neg c111] at H
      exact absurd H (by simp)
    ·
     rw [if_neg c110] at H
     exact absurd H (by simp)

end Go.Proofs.YtfcifigemiafgaaDoor.PAll
