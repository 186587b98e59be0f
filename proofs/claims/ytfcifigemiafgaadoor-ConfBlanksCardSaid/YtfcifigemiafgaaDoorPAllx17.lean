import Derived.Deep.Cut
import Derived.Deep.CutRange
import Derived.Deep.CutBlock
import Derived.Test.YtfcifigemiafgaaDoorPAllx0
import Derived.Test.YtfcifigemiafgaaDoorPAllx12
import Derived.Test.YtfcifigemiafgaaDoorPAllx13
import Derived.Test.YtfcifigemiafgaaDoorPAllx14
import Derived.Test.YtfcifigemiafgaaDoorPAllx16
namespace Go.Proofs.YtfcifigemiafgaaDoor.PAll
open Go.RowKit Go.Proofs.YtfcifigemiafgaaDoorW.PrintWords Go.Proofs.YtfcifigemiafgaaDoorW.PrintLast Go.Proofs.YtfcifigemiafgaaDoorW.PrintMore
attribute [local go_sem] max2_int min2_int max_two min_two max_three min_three max_four min_four   -- for this text's walks alone
set_option linter.unusedVariables false
set_option linter.unusedSimpArgs false

/-! ### pantrylaw09_ConfBlanks: function 4 -/
mutual
def pantrylaw09_ConfBlanks.j0 : Nat → ByteArray → List Int → Bool → Option (Bool)
 | 0, _, _, _ => none
 | k + 1, x0, x1, x23 => if x23 = true then (some true) else ((pantryref09_Words.f k x0).bind fun t237 => (pantrylaw09_ConfBlanks.l0 k x0 x1 (⟨#[]⟩ : ByteArray) t237 (t237.length : Int) 0))
def pantrylaw09_ConfBlanks.l0 : Nat → ByteArray → List Int → ByteArray → List ByteArray → Int → Int → Option (Bool)
 | 0, _, _, _, _, _, _ => none
 | k + 1, x0, x1, x6, x29, x30, x31 => if x31 < x30 then (if 0 ≤ x31 then (if x31 < (x29.length : Int) then (if x6.size + (rdOf ByteArray.empty x29 x31).size ≤ 9223372036854775807 then (if x31 < (x1.length : Int) then (pantrylaw09_ConfBlanks.j2 k x0 x1 (x6 ++ (rdOf ByteArray.empty x29 x31)) (rd x1 x31) x29 x30 x31) else (pantrylaw09_ConfBlanks.j2 k x0 x1 (x6 ++ (rdOf ByteArray.empty x29 x31)) 0 x29 x30 x31)) else (none)) else (none)) else (none)) else (if (x6.size : Int) > 4096 then (some true) else ((conf_Read.f k x0).bind fun bt242 => ((conf_Read.f k x6).bind fun bt249 => (if bt242.2.1 = bt249.2.1 then ((pantrymade_Config.f k bt242.1).bind fun t256 => ((pantrymade_Config.f k bt249.1).bind fun t259 => ((pantryref09_Same.f k t256 t259).bind fun t262 => (some t262)))) else (none)))))
def pantrylaw09_ConfBlanks.j2 : Nat → ByteArray → List Int → ByteArray → Int → List ByteArray → Int → Int → Option (Bool)
 | 0, _, _, _, _, _, _, _ => none
 | k + 1, x0, x1, x6, x9, x29, x30, x31 => if (Int.tmod x9 3) = 1 then (if x6.size + 3 ≤ 9223372036854775807 then (pantrylaw09_ConfBlanks.l0 k x0 x1 (x6 ++ (⟨#[10, 32, 9]⟩ : ByteArray)) x29 x30 (wrap64 (x31 + 1))) else (none)) else (if (Int.tmod x9 3) = 2 then (if x6.size + 15 ≤ 9223372036854775807 then (pantrylaw09_ConfBlanks.l0 k x0 x1 (x6 ++ (⟨#[32, 47, 47, 32, 120, 32, 59, 32, 123, 32, 115, 105, 116, 101, 10]⟩ : ByteArray)) x29 x30 (wrap64 (x31 + 1))) else (none)) else (if x6.size + 1 ≤ 9223372036854775807 then (pantrylaw09_ConfBlanks.l0 k x0 x1 (x6 ++ (⟨#[32]⟩ : ByteArray)) x29 x30 (wrap64 (x31 + 1))) else (none)))
end
def pantrylaw09_ConfBlanks.f (k : Nat) (a0 : ByteArray) (l1 : List Int) : Option (Bool) := (pantrylaw09_anchor.f k).bind fun t236 => (if t236 = true then (if (a0.size : Int) > 1500 then (pantrylaw09_ConfBlanks.j0 k a0 l1 true) else (pantrylaw09_ConfBlanks.j0 k a0 l1 (decide ((l1.length : Int) > 300)))) else (none))
theorem pantrylaw09_ConfBlanks.mono_l : ∀ k, (∀ y0 y1 y2, LeO (pantrylaw09_ConfBlanks.j0 k y0 y1 y2) (pantrylaw09_ConfBlanks.j0 (k + 1) y0 y1 y2)) ∧ (∀ y0 y1 y2 y3 y4 y5, LeO (pantrylaw09_ConfBlanks.l0 k y0 y1 y2 y3 y4 y5) (pantrylaw09_ConfBlanks.l0 (k + 1) y0 y1 y2 y3 y4 y5)) ∧ (∀ y0 y1 y2 y3 y4 y5 y6, LeO (pantrylaw09_ConfBlanks.j2 k y0 y1 y2 y3 y4 y5 y6) (pantrylaw09_ConfBlanks.j2 (k + 1) y0 y1 y2 y3 y4 y5 y6))
 | 0 => ⟨fun _ _ _ r h => by simp [pantrylaw09_ConfBlanks.j0] at h, fun _ _ _ _ _ _ r h => by simp [pantrylaw09_ConfBlanks.l0] at h, fun _ _ _ _ _ _ _ r h => by simp [pantrylaw09_ConfBlanks.j2] at h⟩
 | k + 1 => by
  obtain ⟨ih0, ih1, ih2⟩ := pantrylaw09_ConfBlanks.mono_l k
  refine ⟨?_, ?_, ?_⟩
  ·
   intro y0 y1 y2
   unfold pantrylaw09_ConfBlanks.j0
   repeat' (with_reducible first | exact ih0 _ _ _ | exact ih1 _ _ _ _ _ _ | exact ih2 _ _ _ _ _ _ _ | exact conf_Read.mono _ _ | exact pantrylaw09_anchor.mono _ | exact pantrymade_Config.mono _ _ | exact pantryref09_Same.mono _ _ _ | exact pantryref09_Words.mono _ _ | exact lR_ | refine LeO.ite ?_ ?_ | refine LeO.bind ?_ (fun _ => ?_))
  ·
   intro y0 y1 y2 y3 y4 y5
   unfold pantrylaw09_ConfBlanks.l0
   repeat' (with_reducible first | exact ih0 _ _ _ | exact ih1 _ _ _ _ _ _ | exact ih2 _ _ _ _ _ _ _ | exact conf_Read.mono _ _ | exact pantrylaw09_anchor.mono _ | exact pantrymade_Config.mono _ _ | exact pantryref09_Same.mono _ _ _ | exact pantryref09_Words.mono _ _ | exact lR_ | refine LeO.ite ?_ ?_ | refine LeO.bind ?_ (fun _ => ?_))
  ·
   intro y0 y1 y2 y3 y4 y5 y6
   unfold pantrylaw09_ConfBlanks.j2
   repeat' (with_reducible first | exact ih0 _ _ _ | exact ih1 _ _ _ _ _ _ | exact ih2 _ _ _ _ _ _ _ | exact conf_Read.mono _ _ | exact pantrylaw09_anchor.mono _ | exact pantrymade_Config.mono _ _ | exact pantryref09_Same.mono _ _ _ | exact pantryref09_Words.mono _ _ | exact lR_ | refine LeO.ite ?_ ?_ | refine LeO.bind ?_ (fun _ => ?_))
theorem pantrylaw09_ConfBlanks.mono : ∀ a0 a1 k, LeO (pantrylaw09_ConfBlanks.f k a0 a1) (pantrylaw09_ConfBlanks.f (k + 1) a0 a1) := by
 intro a0 a1 k
 obtain ⟨ih0, ih1, ih2⟩ := pantrylaw09_ConfBlanks.mono_l k
 unfold pantrylaw09_ConfBlanks.f
 repeat' (with_reducible first | exact ih0 _ _ _ | exact ih1 _ _ _ _ _ _ | exact ih2 _ _ _ _ _ _ _ | exact conf_Read.mono _ _ | exact pantrylaw09_anchor.mono _ | exact pantrymade_Config.mono _ _ | exact pantryref09_Same.mono _ _ _ | exact pantryref09_Words.mono _ _ | exact lR_ | refine LeO.ite ?_ ?_ | refine LeO.bind ?_ (fun _ => ?_))
def pantrylaw09_ConfBlanks.T25 : Bool × List (List Nat × List Nat) := (true, [([], []), ([0], [0]), ([], []), ([2], [2]), ([1, 3], [1, 3]), ([4], [4]), ([5], [5]), ([6, 5, 5], [5, 6]), ([5], [5]), ([8, 7, 5], [5, 8]), ([7, 9, 9, 5], [5, 7, 9]), ([5, 10], [5, 10]), ([11, 10, 0, 1, 2, 3, 4, 5, 6, 7, 8, 9, 10, 11], [11])])
def pantrylaw09_ConfBlanks.B25 : List Nat := [0, 1, 0, 4, 15, 31, 63, 127, 63, 511, 1023, 2047, 4095]
theorem pantrylaw09_ConfBlanks.tab25 : rtab .any (opsOf Tryd.f4 25) = pantrylaw09_ConfBlanks.T25 := by kernel_rfl
theorem pantrylaw09_ConfBlanks.bits25 : waitsOk pantrylaw09_ConfBlanks.T25.2 pantrylaw09_ConfBlanks.B25 = true := by kernel_rfl
set_option maxHeartbeats 8000000 in
set_option maxRecDepth 100000 in
theorem pantrylaw09_ConfBlanks.calls (k : Nat) (a0 : ByteArray) (A1 : Option Addr) (c1 : Nat) (l1 : List Int) (r : Bool) (w : World) (hr1 : Kd.C (Kd.int .i64) w A1 l1.length l1) (hc1 : l1.length ≤ c1) (hrW : WF w) (h : pantrylaw09_ConfBlanks.f k a0 l1 = some r) :
  Calls Tryd.prog 4 #[.string a0, .slice A1 l1.length c1] w fun e w' => e = .returned (.bool r) ∧ Below w.heap.size w w' := by
 have hu24 := Tryd.underlying24
 have hu48 := Tryd.underlying48
 have HRW := Aside0.mk hrW
 clear hrW
 have HR1 := Aside0.mk hr1
 have HC1 := Aside0.mk hc1
 clear hr1 hc1
 have HB := Aside0.mk (Below.refl w.heap.size w)
 have H : ((pantrylaw09_anchor.f k).bind fun t236 => (if t236 = true then (if (a0.size : Int) > 1500 then (pantrylaw09_ConfBlanks.j0 k a0 l1 true) else (pantrylaw09_ConfBlanks.j0 k a0 l1 (decide ((l1.length : Int) > 300)))) else (none))) = some r := h
 clear h
 obtain ⟨t236, A3, H⟩ := bS_ H
 try dsimp only at H
 by_cases c4 : t236 = true
 ·
  subst c4
  rw [if_pos rfl] at H
  have HC5 := Aside0.mk H
  clear H
  go_enter Tryd.func4, Tryd.ntmps4
  go_upto_region 3 with (first | ((with_reducible refine gate_callee (f := 8) rfl ?_); refine goesL_ (some 14) rfl rfl Tryd.func8 (by kernel_rfl) rfl #[] rfl T1_ ?_; (with_reducible refine (pantrylaw09_anchor.calls k  true _ ?side1 A3.out).mono ?_); (case side1 => exact C1_ (HRW.out)); rintro e w6 ⟨rfl, hb⟩; refine ⟨_, rfl, ?_⟩; replace HB := y1_ hb; (try clear hb)))
  (try simp only [Act.put, sA_, sZ_, sS_])
  go_cut [23] (fun v23 wc => ∃ (kq : Nat) (x23_4 : Bool), v23 = .bool x23_4 ∧ Aside0 (pantrylaw09_ConfBlanks.j0 kq a0 l1 x23_4 = some r) ∧ Aside0 (kq ≤ k) ∧ Aside0 (Below w.heap.size w wc))
  case first =>
   have H := HC5.out
   clear HC5
   by_cases c7 : (a0.size : Int) > 1500
   ·
    rw [if_pos c7] at H
    have c7b0 : decide (1500 < (a0.size : Int)) = true := decide_eq_true c7
    have c7b1 : decide (1500 < a0.size) = true := decide_eq_true (by omega)
    clear c7
    (first | rw [c7b0] | (simp only [i64_w, i32_w]; rw [c7b0]) | skip)
    have H' := Aside0.mk H
    clear H
    go_wp2
    go_meet
    case rel => exact ⟨_, (true), E3_, H', ⟨by first | omega | exact Nat.le_refl _⟩, ⟨W1_⟩⟩
   ·
    rw [if_neg c7] at H
    have c7b0 : decide (1500 < (a0.size : Int)) = false := decide_eq_false c7
    have c7b1 : decide (1500 < a0.size) = false := decide_eq_false (by omega)
    clear c7
    (first | rw [c7b0] | (simp only [i64_w, i32_w]; rw [c7b0]) | skip)
    have H' := Aside0.mk H
    clear H
    go_wp2
    go_meet
    case rel => exact ⟨_, (decide ((l1.length : Int) > 300)), E3_, H', ⟨by first | omega | exact Nat.le_refl _⟩, ⟨W1_⟩⟩
  case rest =>
   clear HC5
   (try clear c1); (try clear c4); (try clear c7); (try clear c7b0); (try clear c7b1)
   obtain ⟨kq, x23_4, rfl, HA, HJ4, HB⟩ := hcut
   cases kq with
   | zero => exact absurd HA.out (by simp [pantrylaw09_ConfBlanks.j0])
   | succ kj4 =>
    have H := HA.out
    clear HA
    simp only [pantrylaw09_ConfBlanks.j0] at H
    by_cases c8 : x23_4 = true
    ·
     subst c8
     rw [if_pos rfl] at H
     obtain rfl := Option.some.inj H
     go_wp2
     go_ret
     exact ⟨E1_, W1_⟩
    ·
     replace c8 := Bool.eq_false_iff.mpr c8
     subst c8
     rw [if_neg (show ¬ (false = true) by decide)] at H
     obtain ⟨t237, A9, H⟩ := bS_ H
     try dsimp only at H
     have H' := Aside0.mk H
     clear H
     go_wp2_with (first | ((with_reducible refine gate_callee (f := 15) rfl ?_); refine goesL_ (some 25) rfl rfl Tryd.func15 (by kernel_rfl) rfl #[.string a0] rfl T1_ ?_; (with_reducible refine (pantryref09_Words.calls kj4 a0 t237 _ A9.out).mono ?_); rintro e w10 ⟨gw_, v238, rfl, hcw_, ho0, hb⟩; refine ⟨_, rfl, ?_⟩; have HO239 := Aside0.mk (Kd.R_lower ho0 (below_size W1_)); replace HB := y1_ hb; (try clear hb); (try clear ho0); obtain ⟨Ao11, co11, eo11⟩ := Kd.R_slice HO239.out; subst eo11))
     go_loopg [6, 31] kj4 (fun kq v6 v31 w' => ∃ (x6_2 : ByteArray) (x31_2 : Int), v6 = .string x6_2 ∧ v31 = .int .i64 x31_2 ∧ Aside0 (pantrylaw09_ConfBlanks.l0 kq a0 l1 x6_2 t237 (t237.length : Int) x31_2 = some r) ∧ Aside0 (kq ≤ kj4) ∧ Aside0 (Kd.R Kd.string 9 w' w.heap.size (fun _ => True) (.slice Ao11 t237.length co11) t237) ∧ Aside0 (Below w.heap.size w w'))
     case atStart => exact ⟨((⟨#[]⟩ : ByteArray)), (0), E3_, E3_, H', ⟨Nat.le_refl _⟩, ⟨R1_ HO239.out⟩, ⟨W1_⟩⟩
     case round =>
      clear H'
      (try clear c1); (try clear c4); (try clear c7); (try clear c7b0); (try clear c7b1); (try clear c8)
      obtain ⟨x6_2, x31_2, rfl, rfl, HA, HK2, HO_29, HB⟩ := hrel
      cases gk with
      | zero => exact absurd HA.out (by simp [pantrylaw09_ConfBlanks.l0])
      | succ k2 =>
       have H := HA.out
       clear HA
       simp only [pantrylaw09_ConfBlanks.l0] at H
       by_cases c12 : x31_2 < (t237.length : Int)
       ·
        rw [if_pos c12] at H
        have c12b0 : decide (x31_2 < (t237.length : Int)) = true := decide_eq_true c12
        clear c12
        by_cases c13 : 0 ≤ x31_2
        ·
         rw [if_pos c13] at H
         have c13b0 : decide (0 ≤ x31_2) = true := decide_eq_true c13
         clear c13
         by_cases c14 : x31_2 < (t237.length : Int)
         ·
          rw [if_pos c14] at H
          have c14b0 : decide (x31_2 < (t237.length : Int)) = true := decide_eq_true c14
          clear c14
          by_cases c15 : x6_2.size + (rdOf ByteArray.empty t237 x31_2).size ≤ 9223372036854775807
          ·
           rw [if_pos c15] at H
           have c15b0 := eq_true c15
           have c15b1 : decide (x6_2.size + (rdOf ByteArray.empty t237 x31_2).size ≤ 9223372036854775807) = true := decide_eq_true c15
           try have c15b2 : (9223372036854775807 < x6_2.size + (rdOf ByteArray.empty t237 x31_2).size) = False := eq_false (Nat.not_lt.2 c15)
           have HC16 := Aside0.mk H
           clear H
           have p240 : 0 ≤ (x31_2 : Int) := oA_
           have q240 : x31_2 < (t237.length : Int) := oA_
           obtain ⟨ad240, e240, hx240_0⟩ := Kd.at_string (Kd.R_reads' HO_29.out).2.2 x31_2 p240 q240
           cases e240
           replace p240 := eq_true p240
           replace q240 := eq_true q240
           go_upto_if 42 with (fail)
           go_cut [9] (fun v9 wc => ∃ (kq : Nat) (x9_15 : Int), v9 = .int .i64 x9_15 ∧ Aside0 (pantrylaw09_ConfBlanks.j2 kq a0 l1 (x6_2 ++ (rdOf ByteArray.empty t237 x31_2)) x9_15 t237 (t237.length : Int) x31_2 = some r) ∧ Aside0 (kq ≤ k2) ∧ Aside0 (Kd.R Kd.string 9 wc w.heap.size (fun _ => True) (.slice (some ad240) t237.length co11) t237) ∧ Aside0 (Below w.heap.size w wc))
           case first =>
            have H := HC16.out
            clear HC16
            by_cases c17 : x31_2 < (l1.length : Int)
            ·
             rw [if_pos c17] at H
             have c17b0 : decide (x31_2 < (l1.length : Int)) = true := decide_eq_true c17
             clear c17
             (first | rw [c17b0] | (simp only [i64_w, i32_w]; rw [c17b0]) | skip)
             have H' := Aside0.mk H
             clear H
             have p241 : 0 ≤ (x31_2 : Int) := oA_
             have q241 : x31_2 < (l1.length : Int) := oA_
             obtain ⟨ad241, e241, hx241_0⟩ := Kd.at_int HR1.out x31_2 p241 q241
             cases e241
             replace hx241_0 := (HB.out.cell (World.block_lt_of_cell? w _ hx241_0)).trans hx241_0
             replace p241 := eq_true p241
             replace q241 := eq_true q241
             go_wp2
             go_meet
             case rel => exact ⟨_, (rd l1 x31_2), E3_, H', ⟨by have := HJ4.out; have := HK2.out; first | omega | exact Nat.le_refl _⟩, ⟨R1_ HO_29.out⟩, ⟨W1_⟩⟩
            ·
             rw [if_neg c17] at H
             have c17b0 : decide (x31_2 < (l1.length : Int)) = false := decide_eq_false c17
             clear c17
             (first | rw [c17b0] | (simp only [i64_w, i32_w]; rw [c17b0]) | skip)
             have H' := Aside0.mk H
             clear H
             go_wp2
             go_meet
             case rel => exact ⟨_, (0), E3_, H', ⟨by have := HJ4.out; have := HK2.out; first | omega | exact Nat.le_refl _⟩, ⟨R1_ HO_29.out⟩, ⟨W1_⟩⟩
           case rest =>
            clear HC16
            (try clear c1); (try clear c4); (try clear c7); (try clear c7b0); (try clear c7b1); (try clear c8); (try clear c12); (try clear c12b0); (try clear c13); (try clear c13b0); (try clear c14); (try clear c14b0); (try clear c15); (try clear c15b0); (try clear c15b1); (try clear c15b2); (try clear c17); (try clear c17b0); (try clear hx240_0); (try clear hx241_0); (try clear p240); (try clear p241); (try clear q240); (try clear q241)
            obtain ⟨kq, x9_15, rfl, HA, HJ15, HO_29, HB⟩ := hcut
            cases kq with
            | zero => exact absurd HA.out (by simp [pantrylaw09_ConfBlanks.j2])
            | succ kj15 =>
             have H := HA.out
             clear HA
             simp only [pantrylaw09_ConfBlanks.j2] at H
             by_cases c18 : (Int.tmod x9_15 3) = 1
             ·
              rw [if_pos c18] at H
              have c18b0 : ((Int.tmod x9_15 3) == 1) = true := beq_iff_eq.mpr c18
              have c18b1 : ((Int.tmod x9_15 3) != 1) = false := bne_eq_false_iff_eq.mpr c18
              clear c18
              by_cases c19 : (x6_2 ++ (rdOf ByteArray.empty t237 x31_2)).size + 3 ≤ 9223372036854775807
              ·
               rw [if_pos c19] at H
               have c19b0 := eq_true c19
               have c19b1 : decide ((x6_2 ++ (rdOf ByteArray.empty t237 x31_2)).size + 3 ≤ 9223372036854775807) = true := decide_eq_true c19
               try have c19b2 : (9223372036854775807 < (x6_2 ++ (rdOf ByteArray.empty t237 x31_2)).size + 3) = False := eq_false (Nat.not_lt.2 c19)
               try have c19b3 : (9223372036854775807 < (x6_2).size + (rdOf ByteArray.empty t237 x31_2).size + 3) = False := by have h_ := c19; (simp only [ByteArray.size_append] at h_); exact eq_false (Nat.not_lt.2 h_)
               have H' := Aside0.mk H
               clear H
               go_wp2
               go_roundg kj15
               case measure => have := HJ4.out; have := HK2.out; have := HJ15.out; omega
               case rel => exact ⟨((x6_2 ++ (rdOf ByteArray.empty t237 x31_2)) ++ (⟨#[10, 32, 9]⟩ : ByteArray)), (wrap64 (x31_2 + 1)), E3_, E3_, H', ⟨by have := HJ4.out; have := HK2.out; have := HJ15.out; omega⟩, ⟨R1_ HO_29.out⟩, ⟨W1_⟩⟩
              ·
               rw [if_neg c19] at H
               exact absurd H (by simp)
             ·
              rw [if_neg c18] at H
              have c18b0 : ((Int.tmod x9_15 3) == 1) = false := beq_eq_false_iff_ne.mpr c18
              have c18b1 : ((Int.tmod x9_15 3) != 1) = true := bne_iff_ne.mpr c18
              by_cases c20 : (Int.tmod x9_15 3) = 2
              ·
               rw [if_pos c20] at H
               have c20b0 : ((Int.tmod x9_15 3) == 2) = true := beq_iff_eq.mpr c20
               have c20b1 : ((Int.tmod x9_15 3) != 2) = false := bne_eq_false_iff_eq.mpr c20
               clear c20
               by_cases c21 : (x6_2 ++ (rdOf ByteArray.empty t237 x31_2)).size + 15 ≤ 9223372036854775807
               ·
                rw [if_pos c21] at H
                have c21b0 := eq_true c21
                have c21b1 : decide ((x6_2 ++ (rdOf ByteArray.empty t237 x31_2)).size + 15 ≤ 9223372036854775807) = true := decide_eq_true c21
                try have c21b2 : (9223372036854775807 < (x6_2 ++ (rdOf ByteArray.empty t237 x31_2)).size + 15) = False := eq_false (Nat.not_lt.2 c21)
                try have c21b3 : (9223372036854775807 < (x6_2).size + (rdOf ByteArray.empty t237 x31_2).size + 15) = False := by have h_ := c21; (simp only [ByteArray.size_append] at h_); exact eq_false (Nat.not_lt.2 h_)
                have H' := Aside0.mk H
                clear H
                go_wp2
                go_roundg kj15
                case measure => have := HJ4.out; have := HK2.out; have := HJ15.out; omega
                case rel => exact ⟨((x6_2 ++ (rdOf ByteArray.empty t237 x31_2)) ++ (⟨#[32, 47, 47, 32, 120, 32, 59, 32, 123, 32, 115, 105, 116, 101, 10]⟩ : ByteArray)), (wrap64 (x31_2 + 1)), E3_, E3_, H', ⟨by have := HJ4.out; have := HK2.out; have := HJ15.out; omega⟩, ⟨R1_ HO_29.out⟩, ⟨W1_⟩⟩
               ·
                rw [if_neg c21] at H
                exact absurd H (by simp)
              ·
               rw [if_neg c20] at H
               have c20b0 : ((Int.tmod x9_15 3) == 2) = false := beq_eq_false_iff_ne.mpr c20
               have c20b1 : ((Int.tmod x9_15 3) != 2) = true := bne_iff_ne.mpr c20
               by_cases c22 : (x6_2 ++ (rdOf ByteArray.empty t237 x31_2)).size + 1 ≤ 9223372036854775807
               ·
                rw [if_pos c22] at H
                have c22b0 := eq_true c22
                have c22b1 : decide ((x6_2 ++ (rdOf ByteArray.empty t237 x31_2)).size + 1 ≤ 9223372036854775807) = true := decide_eq_true c22
                try have c22b2 : (9223372036854775807 < (x6_2 ++ (rdOf ByteArray.empty t237 x31_2)).size + 1) = False := eq_false (Nat.not_lt.2 c22)
                try have c22b3 : (9223372036854775807 < (x6_2).size + (rdOf ByteArray.empty t237 x31_2).size + 1) = False := by have h_ := c22; (simp only [ByteArray.size_append] at h_); exact eq_false (Nat.not_lt.2 h_)
                have H' := Aside0.mk H
                clear H
                go_wp2
                go_roundg kj15
                case measure => have := HJ4.out; have := HK2.out; have := HJ15.out; omega
                case rel => exact ⟨((x6_2 ++ (rdOf ByteArray.empty t237 x31_2)) ++ (⟨#[32]⟩ : ByteArray)), (wrap64 (x31_2 + 1)), E3_, E3_, H', ⟨by have := HJ4.out; have := HK2.out; have := HJ15.out; omega⟩, ⟨R1_ HO_29.out⟩, ⟨W1_⟩⟩
               ·
                rw [if_neg c22] at H
                exact absurd H (by simp)
          ·
           rw [if_neg c15] at H
           exact absurd H (by simp)
         ·
          rw [if_neg c14] at H
          exact absurd H (by simp)
        ·
         rw [if_neg c13] at H
         exact absurd H (by simp)
       ·
        rw [if_neg c12] at H
        have c12b0 : decide (x31_2 < (t237.length : Int)) = false := decide_eq_false c12
        clear c12
        by_cases c23 : (x6_2.size : Int) > 4096
        ·
         rw [if_pos c23] at H
         have c23b0 : decide (4096 < (x6_2.size : Int)) = true := decide_eq_true c23
         have c23b1 : decide (4096 < x6_2.size) = true := decide_eq_true (by omega)
         clear c23
         obtain rfl := Option.some.inj H
         go_wp2
         go_ret
         exact ⟨E1_, W1_⟩
        ·
         rw [if_neg c23] at H
         have c23b0 : decide (4096 < (x6_2.size : Int)) = false := decide_eq_false c23
         have c23b1 : decide (4096 < x6_2.size) = false := decide_eq_false (by omega)
         clear c23
         obtain ⟨⟨t242, t245, t246⟩, A24, H⟩ := bS_ H
         try dsimp only at H
         obtain ⟨⟨t249, t252, t253⟩, A25, H⟩ := bS_ H
         try dsimp only at H
         by_cases c26 : t245 = t252
         ·
          rw [if_pos c26] at H
          have c26b0 : (t245 == t252) = true := beq_iff_eq.mpr c26
          have c26b1 : (t245 != t252) = false := bne_eq_false_iff_eq.mpr c26
          clear c26
          obtain ⟨t256, A27, H⟩ := bS_ H
          try dsimp only at H
          obtain ⟨t259, A28, H⟩ := bS_ H
          try dsimp only at H
          obtain ⟨t262, A29, H⟩ := bS_ H
          try dsimp only at H
          obtain rfl := Option.some.inj H
          try go_wp2_with (first | ((with_reducible refine gate_callee (f := 16) rfl ?_); refine goesL_ (some 65) rfl rfl Tryd.func16 (by kernel_rfl) rfl #[.string a0] rfl T1_ ?_; (with_reducible refine (conf_Read.calls k2 a0 t242 t245 t246 _ ?side1 A24.out).mono ?_); (case side1 => exact C1_ ((WF.below HRW.out HB.out))); rintro e w30 ⟨v243, rfl, ho0, hb⟩; refine ⟨_, rfl, ?_⟩; have HO244 := Aside0.mk (Kd.N_lower (Kd.N_mono (ok' := fun k_ => some k_ ≠ (.slice Ao11 t237.length co11 : Value).ownBlock) (Kd.S_N (Kd.S_bound ho0)) (fun k_ hk_ => (Kd.fresh' (Kd.R_lt (R1_ HO_29.out)) k_ hk_.2.1))) (below_size W1_)); replace HO_29 := Aside0.mk (Kd.R_below (R1_ HO_29.out) hb); replace HB := y1_ hb; (try clear hb); (try clear ho0)) | ((with_reducible refine gate_dst (N := 10) rfl ?_); (try (refine gate_guard (by rfl) ?_; dsimp only)); refine box_event ?hg (N := 10) ?hd (cs := #[.slice none 0 0]) (t := 24) ?hr ?_; (case hd | hg => rfl); (case hr => exact S1_); intro gb247 hg w31 hbox hb; have BK247 := Aside0.mk (hbox); have GW247 := Aside0.mk ((Z1_ : w.heap.size ≤ gb247)); have GE247 := Aside0.mk ((Z1_ : w.heap.size ≤ gb247)); replace HO_29 := Aside0.mk (Kd.R_below (R1_ HO_29.out) hb); replace HO244 := Aside0.mk (Kd.N_below (Kd.N_elderB (by (with_reducible repeat (first | apply Kd.N_alloc | apply Kd.N_drewN | apply Kd.N_drew)); exact HO244.out) gb247 (Nat.le_of_eq hg.symm)) hb); replace HB := y1_ hb; clear hb hbox hg) | ((with_reducible refine gate_dst (N := 11) rfl ?_); (try (refine gate_guard (by rfl) ?_; dsimp only)); refine box_event ?hg (N := 11) ?hd (cs := #[.int .i64 0, .int .i64 0]) (t := 48) ?hr ?_; (case hd | hg => rfl); (case hr => exact S1_); intro gb248 hg w32 hbox hb; have BK248 := Aside0.mk (hbox); have GW248 := Aside0.mk ((Z2_ : w.heap.size ≤ gb248)); have GE248 := Aside0.mk ((Z2_ : w.heap.size ≤ gb248)); have NB247_248 := Aside0.mk ((by rw [hg]; exact Nat.ne_of_lt (blk_lt (B1_ BK247.out)) : gb247 ≠ gb248)); have NB248_247 := Aside0.mk ((by rw [hg]; exact Nat.ne_of_gt (blk_lt (B1_ BK247.out)) : gb248 ≠ gb247)); replace HO_29 := Aside0.mk (Kd.R_below (R1_ HO_29.out) hb); replace HO244 := Aside0.mk (Kd.N_below (Kd.N_elderB (by (with_reducible repeat (first | apply Kd.N_alloc | apply Kd.N_drewN | apply Kd.N_drew)); exact HO244.out) gb248 (Nat.le_of_eq hg.symm)) hb); replace BK247 := yB_ BK247 hb; replace HB := y2_ hb; clear hb hbox hg; obtain ⟨Ao33, co33, eo33⟩ := Kd.N_slice HO244.out; subst eo33; have hnb34 := NB247_248.out; have hnc34 := NB248_247.out; obtain ⟨z35_0, y35_0⟩ := cz1_ BK247.out; obtain ⟨z36_0, z36_1, y36_0, y36_1⟩ := cz2_ BK248.out) | ((with_reducible refine gate_callee (f := 16) rfl ?_); refine goesL_ (some 70) rfl rfl Tryd.func16 (by kernel_rfl) rfl #[.string x6_2] rfl T1_ ?_; (with_reducible refine (conf_Read.calls k2 x6_2 t249 t252 t253 _ ?side1 A25.out).mono ?_); (case side1 => exact WF.below HRW.out W2_); rintro e w37 ⟨v250, rfl, ho0, hb⟩; refine ⟨_, rfl, ?_⟩; have HO251 := Aside0.mk (Kd.N_lower (Kd.N_mono (ok' := fun k_ => some k_ ≠ (.slice Ao11 t237.length co11 : Value).ownBlock ∧ some k_ ≠ (.slice Ao33 t242.length co33 : Value).ownBlock ∧ k_ ≠ gb247 ∧ k_ ≠ gb248) (Kd.S_N (Kd.S_bound ho0)) (fun k_ hk_ => ⟨(Kd.fresh' (Kd.R_lt (by refine R1_ ?_; exact (Kd.R_mono (Kd.R_mono (Kd.R_far (p := ⟨gb248, 1, none⟩) (Kd.R_far (p := ⟨gb248, 0, none⟩) (Kd.R_far (p := ⟨gb247, 0, none⟩) (Kd.R_types (Kd.R_types HO_29.out BK247.out (by decide)) BK248.out (by decide)) (fun _ hk => hk.1.2) (.slice Ao33 t242.length co33)) (fun _ hk => hk.2) (.int .i64 t245)) (fun _ hk => hk.2) (.int .i64 t246)) (fun _ h_ => h_.1)) (fun _ h_ => h_.1)))) k_ hk_.2.1), (Kd.fresh' (Kd.N_lt (by (with_reducible repeat (first | apply Kd.N_alloc | apply Kd.N_drewN | apply Kd.N_drew)); exact (Kd.N_mono (Kd.N_mono (Kd.N_far (p := ⟨gb248, 1, none⟩) (Kd.N_far (p := ⟨gb248, 0, none⟩) (Kd.N_far (p := ⟨gb247, 0, none⟩) (Kd.N_mono (Kd.N_mono HO244.out (fun k_ hk => (⟨hk, hk.1.2⟩ : _ ∧ k_ ≠ gb247))) (fun k_ hk => (⟨hk, hk.1.2⟩ : _ ∧ k_ ≠ gb248))) (fun _ hk => hk.1.2) (.slice Ao33 t242.length co33)) (fun _ hk => hk.2) (.int .i64 t245)) (fun _ hk => hk.2) (.int .i64 t246)) (fun _ h_ => h_.1)) (fun _ h_ => h_.1)))) k_ hk_.2.1), (Kd.freshB (g := gb247) (o := .cells #[.slice Ao33 t242.length co33] 24 (0, 0)) (G1_ BK247.out) k_ hk_.2.1), (Kd.freshB (g := gb248) (o := .cells #[.int .i64 t245, .int .i64 t246] 48 (0, 0)) (G1_ BK248.out) k_ hk_.2.1)⟩)) (below_size W2_)); replace HO_29 := Aside0.mk (Kd.R_below (by refine R1_ ?_; exact (Kd.R_mono (Kd.R_mono (Kd.R_far (p := ⟨gb248, 1, none⟩) (Kd.R_far (p := ⟨gb248, 0, none⟩) (Kd.R_far (p := ⟨gb247, 0, none⟩) (Kd.R_types (Kd.R_types HO_29.out BK247.out (by decide)) BK248.out (by decide)) (fun _ hk => hk.1.2) (.slice Ao33 t242.length co33)) (fun _ hk => hk.2) (.int .i64 t245)) (fun _ hk => hk.2) (.int .i64 t246)) (fun _ h_ => h_.1)) (fun _ h_ => h_.1))) hb); replace HO244 := Aside0.mk (Kd.N_elder' (by (with_reducible repeat (first | apply Kd.N_alloc | apply Kd.N_drewN | apply Kd.N_drew)); exact (Kd.N_mono (Kd.N_mono (Kd.N_far (p := ⟨gb248, 1, none⟩) (Kd.N_far (p := ⟨gb248, 0, none⟩) (Kd.N_far (p := ⟨gb247, 0, none⟩) (Kd.N_mono (Kd.N_mono HO244.out (fun k_ hk => (⟨hk, hk.1.2⟩ : _ ∧ k_ ≠ gb247))) (fun k_ hk => (⟨hk, hk.1.2⟩ : _ ∧ k_ ≠ gb248))) (fun _ hk => hk.1.2) (.slice Ao33 t242.length co33)) (fun _ hk => hk.2) (.int .i64 t245)) (fun _ hk => hk.2) (.int .i64 t246)) (fun _ h_ => h_.1)) (fun _ h_ => h_.1))) (by first | exact Kd.N_base ho0 | exact Kd.S_base ho0) hb); replace BK247 := Aside0.mk (blk_below (g := gb247) (o := .cells #[.slice Ao33 t242.length co33] 24 (0, 0)) (G1_ BK247.out) hb); replace BK248 := Aside0.mk (blk_below (g := gb248) (o := .cells #[.int .i64 t245, .int .i64 t246] 48 (0, 0)) (G1_ BK248.out) hb); replace HB := y2_ hb; (try clear hb); (try clear hk); (try clear ho0)) | ((with_reducible refine gate_dst (N := 12) rfl ?_); (try (refine gate_guard (by rfl) ?_; dsimp only)); refine box_event ?hg (N := 12) ?hd (cs := #[.slice none 0 0]) (t := 24) ?hr ?_; (case hd | hg => rfl); (case hr => exact S1_); intro gb254 hg w38 hbox hb; have BK254 := Aside0.mk (hbox); have GW254 := Aside0.mk ((Z2_ : w.heap.size ≤ gb254)); have GE254 := Aside0.mk ((Z2_ : w.heap.size ≤ gb254)); have NB247_254 := Aside0.mk ((by rw [hg]; exact Nat.ne_of_lt (blk_lt (B1_ BK247.out)) : gb247 ≠ gb254)); have NB254_247 := Aside0.mk ((by rw [hg]; exact Nat.ne_of_gt (blk_lt (B1_ BK247.out)) : gb254 ≠ gb247)); have NB248_254 := Aside0.mk ((by rw [hg]; exact Nat.ne_of_lt (blk_lt (B1_ BK248.out)) : gb248 ≠ gb254)); have NB254_248 := Aside0.mk ((by rw [hg]; exact Nat.ne_of_gt (blk_lt (B1_ BK248.out)) : gb254 ≠ gb248)); replace HO_29 := Aside0.mk (Kd.R_below (R1_ HO_29.out) hb); replace HO244 := Aside0.mk (Kd.N_below (Kd.N_elderB (by (with_reducible repeat (first | apply Kd.N_alloc | apply Kd.N_drewN | apply Kd.N_drew)); exact HO244.out) gb254 (Nat.le_of_eq hg.symm)) hb); replace HO251 := Aside0.mk (Kd.N_below (Kd.N_elderB (by (with_reducible repeat (first | apply Kd.N_alloc | apply Kd.N_drewN | apply Kd.N_drew)); exact HO251.out) gb254 (Nat.le_of_eq hg.symm)) hb); replace BK247 := yB_ BK247 hb; replace BK248 := yB_ BK248 hb; replace HB := y2_ hb; clear hb hbox hg) | ((with_reducible refine gate_dst (N := 13) rfl ?_); (try (refine gate_guard (by rfl) ?_; dsimp only)); refine box_event ?hg (N := 13) ?hd (cs := #[.int .i64 0, .int .i64 0]) (t := 48) ?hr ?_; (case hd | hg => rfl); (case hr => exact S1_); intro gb255 hg w39 hbox hb; have BK255 := Aside0.mk (hbox); have GW255 := Aside0.mk ((Z2_ : w.heap.size ≤ gb255)); have GE255 := Aside0.mk ((Z2_ : w.heap.size ≤ gb255)); have NB247_255 := Aside0.mk ((by rw [hg]; exact Nat.ne_of_lt (blk_lt (B1_ BK247.out)) : gb247 ≠ gb255)); have NB255_247 := Aside0.mk ((by rw [hg]; exact Nat.ne_of_gt (blk_lt (B1_ BK247.out)) : gb255 ≠ gb247)); have NB248_255 := Aside0.mk ((by rw [hg]; exact Nat.ne_of_lt (blk_lt (B1_ BK248.out)) : gb248 ≠ gb255)); have NB255_248 := Aside0.mk ((by rw [hg]; exact Nat.ne_of_gt (blk_lt (B1_ BK248.out)) : gb255 ≠ gb248)); have NB254_255 := Aside0.mk ((by rw [hg]; exact Nat.ne_of_lt (blk_lt (B1_ BK254.out)) : gb254 ≠ gb255)); have NB255_254 := Aside0.mk ((by rw [hg]; exact Nat.ne_of_gt (blk_lt (B1_ BK254.out)) : gb255 ≠ gb254)); replace HO_29 := Aside0.mk (Kd.R_below (R1_ HO_29.out) hb); replace HO244 := Aside0.mk (Kd.N_below (Kd.N_elderB (by (with_reducible repeat (first | apply Kd.N_alloc | apply Kd.N_drewN | apply Kd.N_drew)); exact HO244.out) gb255 (Nat.le_of_eq hg.symm)) hb); replace HO251 := Aside0.mk (Kd.N_below (Kd.N_elderB (by (with_reducible repeat (first | apply Kd.N_alloc | apply Kd.N_drewN | apply Kd.N_drew)); exact HO251.out) gb255 (Nat.le_of_eq hg.symm)) hb); replace BK247 := yB_ BK247 hb; replace BK248 := yB_ BK248 hb; replace BK254 := yB_ BK254 hb; replace HB := y2_ hb; clear hb hbox hg; obtain ⟨Ao40, co40, eo40⟩ := Kd.N_slice HO251.out; subst eo40; have hnb41 := NB254_247.out; have hnc41 := NB247_254.out; have hnb42 := NB254_248.out; have hnc42 := NB248_254.out; have hnb43 := NB254_255.out; have hnc43 := NB255_254.out; obtain ⟨z44_0, y44_0⟩ := cz1_ BK254.out; have hnb45 := NB255_247.out; have hnc45 := NB247_255.out; have hnb46 := NB255_248.out; have hnc46 := NB248_255.out; obtain ⟨z47_0, z47_1, y47_0, y47_1⟩ := cz2_ BK255.out))
          have n0_ : Aside0 (Kd.R Kd.string 9 (((w39.setCell ⟨gb254, 0, none⟩ (.slice Ao40 t249.length co40)).setCell ⟨gb255, 0, none⟩ (.int .i64 t252)).setCell ⟨gb255, 1, none⟩ (.int .i64 t253)) w.heap.size (fun _ => True) (.slice Ao11 t237.length co11) t237) := ⟨by refine R1_ ?_; exact Kd.R_mono (Kd.R_far (p := ⟨gb255, 1, none⟩) (Kd.R_far (p := ⟨gb255, 0, none⟩) (Kd.R_far (p := ⟨gb254, 0, none⟩) (Kd.R_types (Kd.R_types HO_29.out BK254.out (by decide)) BK255.out (by decide)) (fun _ hk => hk.1.2) (.slice Ao40 t249.length co40)) (fun _ hk => hk.2) (.int .i64 t252)) (fun _ hk => hk.2) (.int .i64 t253)) (fun _ hk => trivial)⟩
          have n1_ : Aside0 (Kd.N k29 29 (((w39.setCell ⟨gb254, 0, none⟩ (.slice Ao40 t249.length co40)).setCell ⟨gb255, 0, none⟩ (.int .i64 t252)).setCell ⟨gb255, 1, none⟩ (.int .i64 t253)) w.heap.size (fun k_ => some k_ ≠ (.slice Ao11 t237.length co11 : Value).ownBlock ∧ some k_ ≠ (.slice Ao40 t249.length co40 : Value).ownBlock ∧ k_ ≠ gb247 ∧ k_ ≠ gb248 ∧ k_ ≠ gb254 ∧ k_ ≠ gb255) (.slice Ao33 t242.length co33) t242) := ⟨by (with_reducible repeat (first | apply Kd.N_alloc | apply Kd.N_drewN | apply Kd.N_drew)); exact Kd.N_mono (Kd.N_far (p := ⟨gb255, 1, none⟩) (Kd.N_far (p := ⟨gb255, 0, none⟩) (Kd.N_far (p := ⟨gb254, 0, none⟩) (Kd.N_mono (Kd.N_mono HO244.out (fun k_ hk => (⟨hk, hk.1.2⟩ : _ ∧ k_ ≠ gb254))) (fun k_ hk => (⟨hk, hk.1.2⟩ : _ ∧ k_ ≠ gb255))) (fun _ hk => hk.1.2) (.slice Ao40 t249.length co40)) (fun _ hk => hk.2) (.int .i64 t252)) (fun _ hk => hk.2) (.int .i64 t253)) (fun _ hk => by first | exact ⟨hk.1.1.1.1.1.1.1, ⟨hk.1.1.1.1.2, ⟨hk.1.1.1.1.1.1.2, ⟨hk.1.1.1.1.1.2, ⟨hk.1.1.1.2, hk.1.1.2⟩⟩⟩⟩⟩ | simp_all)⟩
          have n2_ : Aside0 (Kd.N k29 29 (((w39.setCell ⟨gb254, 0, none⟩ (.slice Ao40 t249.length co40)).setCell ⟨gb255, 0, none⟩ (.int .i64 t252)).setCell ⟨gb255, 1, none⟩ (.int .i64 t253)) w.heap.size (fun k_ => some k_ ≠ (.slice Ao11 t237.length co11 : Value).ownBlock ∧ some k_ ≠ (.slice Ao33 t242.length co33 : Value).ownBlock ∧ k_ ≠ gb247 ∧ k_ ≠ gb248 ∧ k_ ≠ gb254 ∧ k_ ≠ gb255) (.slice Ao40 t249.length co40) t249) := ⟨by (with_reducible repeat (first | apply Kd.N_alloc | apply Kd.N_drewN | apply Kd.N_drew)); exact Kd.N_mono (Kd.N_far (p := ⟨gb255, 1, none⟩) (Kd.N_far (p := ⟨gb255, 0, none⟩) (Kd.N_far (p := ⟨gb254, 0, none⟩) (Kd.N_mono (Kd.N_mono HO251.out (fun k_ hk => (⟨hk, hk.1.2⟩ : _ ∧ k_ ≠ gb254))) (fun k_ hk => (⟨hk, hk.1.2⟩ : _ ∧ k_ ≠ gb255))) (fun _ hk => hk.1.2) (.slice Ao40 t249.length co40)) (fun _ hk => hk.2) (.int .i64 t252)) (fun _ hk => hk.2) (.int .i64 t253)) (fun _ hk => by first | exact ⟨hk.1.1.1.1.1, ⟨hk.1.1.1.1.2.1, ⟨hk.1.1.1.1.2.2.1, ⟨hk.1.1.1.1.2.2.2, ⟨hk.1.1.1.2, hk.1.1.2⟩⟩⟩⟩⟩ | simp_all)⟩
          have n3_ : Aside0 ((((w39.setCell ⟨gb254, 0, none⟩ (.slice Ao40 t249.length co40)).setCell ⟨gb255, 0, none⟩ (.int .i64 t252)).setCell ⟨gb255, 1, none⟩ (.int .i64 t253)).heap[gb247]? = some (.cells #[.slice Ao33 t242.length co33] 24 (0, 0))) := ⟨G1_ BK247.out⟩
          have n4_ : Aside0 ((((w39.setCell ⟨gb254, 0, none⟩ (.slice Ao40 t249.length co40)).setCell ⟨gb255, 0, none⟩ (.int .i64 t252)).setCell ⟨gb255, 1, none⟩ (.int .i64 t253)).heap[gb248]? = some (.cells #[.int .i64 t245, .int .i64 t246] 48 (0, 0))) := ⟨G1_ BK248.out⟩
          have n5_ : Aside0 ((((w39.setCell ⟨gb254, 0, none⟩ (.slice Ao40 t249.length co40)).setCell ⟨gb255, 0, none⟩ (.int .i64 t252)).setCell ⟨gb255, 1, none⟩ (.int .i64 t253)).heap[gb254]? = some (.cells #[.slice Ao40 t249.length co40] 24 (0, 0))) := ⟨G1_ BK254.out⟩
          have n6_ : Aside0 ((((w39.setCell ⟨gb254, 0, none⟩ (.slice Ao40 t249.length co40)).setCell ⟨gb255, 0, none⟩ (.int .i64 t252)).setCell ⟨gb255, 1, none⟩ (.int .i64 t253)).heap[gb255]? = some (.cells #[.int .i64 t252, .int .i64 t253] 48 (0, 0))) := ⟨G1_ BK255.out⟩
          have n7_ : Aside0 (Below w.heap.size w (((w39.setCell ⟨gb254, 0, none⟩ (.slice Ao40 t249.length co40)).setCell ⟨gb255, 0, none⟩ (.int .i64 t252)).setCell ⟨gb255, 1, none⟩ (.int .i64 t253))) := ⟨W2_⟩
          (try clear HO_29)
          (try clear HO244)
          (try clear HO251)
          (try clear BK247)
          (try clear BK248)
          (try clear BK254)
          (try clear BK255)
          (try clear HB)
          generalize (((w39.setCell ⟨gb254, 0, none⟩ (.slice Ao40 t249.length co40)).setCell ⟨gb255, 0, none⟩ (.int .i64 t252)).setCell ⟨gb255, 1, none⟩ (.int .i64 t253)) = w48 at n0_ n1_ n2_ n3_ n4_ n5_ n6_ n7_ ⊢
          have HO_29 := n0_
          have HO244 := n1_
          have HO251 := n2_
          have BK247 := n3_
          have BK248 := n4_
          have BK254 := n5_
          have BK255 := n6_
          have HB := n7_
          clear n0_ n1_ n2_ n3_ n4_ n5_ n6_ n7_
          have n0_ := Aside0.mk (kD_ HO_29.out)
          have n1_ := Aside0.mk (Kd.N_drew HO244.out)
          have n2_ := Aside0.mk (Kd.N_drew HO251.out)
          have n3_ := Aside0.mk (bD_ BK247.out)
          have n4_ := Aside0.mk (bD_ BK248.out)
          have n5_ := Aside0.mk (bD_ BK254.out)
          have n6_ := Aside0.mk (bD_ BK255.out)
          have n7_ := Aside0.mk (zD_ HB.out)
          clear HO_29
          clear HO244
          clear HO251
          clear BK247
          clear BK248
          clear BK254
          clear BK255
          clear HB
          have HO_29 := n0_
          have HO244 := n1_
          have HO251 := n2_
          have BK247 := n3_
          have BK248 := n4_
          have BK254 := n5_
          have BK255 := n6_
          have HB := n7_
          clear n0_ n1_ n2_ n3_ n4_ n5_ n6_ n7_
          refine start_ (n := 13) (S := fun w' => w'.cell? ⟨gb248, 0, none⟩ = some (.int .i64 t245) ∧ w'.cell? ⟨gb248, 1, none⟩ = some (.int .i64 t246) ∧ w'.cell? ⟨gb255, 0, none⟩ = some (.int .i64 t252) ∧ w'.cell? ⟨gb255, 1, none⟩ = some (.int .i64 t253) ∧ w'.cell? ⟨gb247, 0, none⟩ = some (.slice Ao33 t242.length co33) ∧ w'.cell? ⟨gb254, 0, none⟩ = some (.slice Ao40 t249.length co40)) (ds := []) #[false, false, false, false, false, false, false, false, false, false, false, false, false] (by kernel_rfl) rfl rfl ⟨xC_ BK248.out 0, xC_ BK248.out 1, xC_ BK255.out 0, xC_ BK255.out 1, xC_ BK247.out 0, xC_ BK254.out 0⟩ (fun hHeld => ?_); refine with_tabW pantrylaw09_ConfBlanks.tab25 pantrylaw09_ConfBlanks.bits25 (fun HT_ HW_ => ?_)
          generalize w48.drew = w49 at HO_29 HO244 HO251 BK247 BK248 BK254 BK255 HB hHeld ⊢
          refine pure_ (i := 0) (N := some 73) (v := ?_) (a' := ?_) #[true, false, false, false, false, false, false, false, false, false, false, false, false] rfl rfl (any_of HT_.out (by kernel_rfl)) (fun _ _ _ h => h) (Or.inl ⟨by rfl, ?_⟩) ?_ ?_
          rotate_left
          ·
           intro w'
           go_simp
           with_reducible rfl
          rotate_left
          ·
           simp only [Act.put, sA_, sZ_, sS_, i64_w, i32_w]
           rfl
          refine pure_ (i := 2) (N := some 75) (v := ?_) (a' := ?_) #[true, false, true, false, false, false, false, false, false, false, false, false, false] rfl rfl (any_of HT_.out (by kernel_rfl)) (fun _ _ _ h => h) (Or.inl ⟨by rfl, ?_⟩) ?_ ?_
          rotate_left
          ·
           intro w'
           go_simp
           with_reducible rfl
          rotate_left
          ·
           simp only [Act.put, sA_, sZ_, sS_, i64_w, i32_w]
           rfl
          refine take_ (i := 1) (N := some 74) (v := ?_) (a' := ?_) #[true, true, true, false, false, false, false, false, false, false, false, false, false] rfl rfl (take_ofW HT_.out HW_.out (by kernel_rfl)) (fun _ _ _ h => h) (Or.inl ⟨by rfl, ?_⟩) hHeld ?_ ?_
          rotate_left
          ·
           rintro w' ⟨s0, s1, s2, s3, s4, s5⟩
           go_simp
           with_reducible rfl
          rotate_left
          ·
           simp only [Act.put, sA_, sZ_, sS_, i64_w, i32_w]
           rfl
          refine take_ (i := 3) (N := some 76) (v := ?_) (a' := ?_) #[true, true, true, true, false, false, false, false, false, false, false, false, false] rfl rfl (take_ofW HT_.out HW_.out (by kernel_rfl)) (fun _ _ _ h => h) (Or.inl ⟨by rfl, ?_⟩) hHeld ?_ ?_
          rotate_left
          ·
           rintro w' ⟨s0, s1, s2, s3, s4, s5⟩
           go_simp
           with_reducible rfl
          rotate_left
          ·
           simp only [Act.put, sA_, sZ_, sS_, i64_w, i32_w]
           rfl
          refine pure_ (i := 4) (N := some 77) (v := ?_) (a' := ?_) #[true, true, true, true, true, false, false, false, false, false, false, false, false] rfl rfl (any_of HT_.out (by kernel_rfl)) (fun _ _ _ h => h) (Or.inl ⟨by rfl, ?_⟩) ?_ ?_
          rotate_left
          ·
           intro w'
           go_simp
           with_reducible rfl
          rotate_left
          ·
           simp only [Act.put, sA_, sZ_, sS_, i64_w, i32_w]
           rfl
          refine pure_ (i := 5) (N := some 78) (v := ?_) (a' := ?_) #[true, true, true, true, true, true, false, false, false, false, false, false, false] rfl rfl (any_of HT_.out (by kernel_rfl)) (fun _ _ _ h => h) (Or.inl ⟨by rfl, ?_⟩) ?_ ?_
          rotate_left
          ·
           intro w'
           go_simp
           with_reducible rfl
          rotate_left
          ·
           simp only [Act.put, sA_, sZ_, sS_, i64_w, i32_w]
           rfl
          refine take_ (i := 6) (N := some 79) (v := ?_) (a' := ?_) #[true, true, true, true, true, true, true, false, false, false, false, false, false] rfl rfl (take_ofW HT_.out HW_.out (by kernel_rfl)) (fun _ _ _ h => h) (Or.inl ⟨by rfl, ?_⟩) hHeld ?_ ?_
          rotate_left
          ·
           rintro w' ⟨s0, s1, s2, s3, s4, s5⟩
           go_simp
           with_reducible rfl
          rotate_left
          ·
           simp only [Act.put, sA_, sZ_, sS_, i64_w, i32_w]
           rfl
          refine take_ (i := 8) (N := some 81) (v := ?_) (a' := ?_) #[true, true, true, true, true, true, true, false, true, false, false, false, false] rfl rfl (take_ofW HT_.out HW_.out (by kernel_rfl)) (fun _ _ _ h => h) (Or.inl ⟨by rfl, ?_⟩) hHeld ?_ ?_
          rotate_left
          ·
           rintro w' ⟨s0, s1, s2, s3, s4, s5⟩
           go_simp
           with_reducible rfl
          rotate_left
          ·
           simp only [Act.put, sA_, sZ_, sS_, i64_w, i32_w]
           rfl
          refine one_ (i := 7) (N := some 80) #[true, true, true, true, true, true, true, true, true, false, false, false, false] rfl rfl (one_of HT_.out (by kernel_rfl)) (by decide) (fun K hK => ?_)
          refine goes_ Tryd.func11 (by kernel_rfl) rfl #[.agg #[.slice Ao33 t242.length co33]] (by rfl) rfl rfl T1_ ?_
          with_reducible refine (pantrymade_Config.calls k2 (fun k_ => (some k_ ≠ (.slice Ao11 t237.length co11 : Value).ownBlock ∧ (some k_ ≠ (.slice Ao40 t249.length co40 : Value).ownBlock ∧ (k_ ≠ gb247 ∧ (k_ ≠ gb248 ∧ (k_ ≠ gb254 ∧ k_ ≠ gb255)))))) _ _ t242 t256 _ ?side1 A27.out).mono ?_
          (case side1 => exact Kd.N_V (HO244.out))
          rintro e w50 ⟨v257, rfl, ho0, hb⟩
          refine ⟨_, rfl, ?_⟩
          have n0_ := Aside0.mk (Kd.R_below (R1_ HO_29.out) hb)
          have n1_ := Aside0.mk (Kd.N_elder' (by (with_reducible repeat (first | apply Kd.N_alloc | apply Kd.N_drewN | apply Kd.N_drew)); exact HO244.out) (by first | exact Kd.N_base ho0 | exact Kd.S_base ho0) hb)
          have n2_ := Aside0.mk (Kd.N_elder' (by (with_reducible repeat (first | apply Kd.N_alloc | apply Kd.N_drewN | apply Kd.N_drew)); exact HO251.out) (by first | exact Kd.N_base ho0 | exact Kd.S_base ho0) hb)
          have n3_ := Aside0.mk (Kd.N_lower (Kd.N_mono (ok' := fun k_ => some k_ ≠ (.slice Ao11 t237.length co11 : Value).ownBlock ∧ some k_ ≠ (.slice Ao40 t249.length co40 : Value).ownBlock ∧ k_ ≠ gb247 ∧ k_ ≠ gb248 ∧ k_ ≠ gb254 ∧ k_ ≠ gb255) ho0 (fun k_ hk_ => ⟨Or.elim hk_ (fun hs_ => hs_.1) (fun hn_ => (Kd.fresh' (Kd.R_lt (R1_ HO_29.out)) k_ hn_)), Or.elim hk_ (fun hs_ => hs_.2.1) (fun hn_ => (Kd.fresh' (Kd.N_lt (by (with_reducible repeat (first | apply Kd.N_alloc | apply Kd.N_drewN | apply Kd.N_drew)); exact HO251.out)) k_ hn_)), Or.elim hk_ (fun hs_ => hs_.2.2.1) (fun hn_ => (Kd.freshB (g := gb247) (o := .cells #[.slice Ao33 t242.length co33] 24 (0, 0)) (B1_ BK247.out) k_ hn_)), Or.elim hk_ (fun hs_ => hs_.2.2.2.1) (fun hn_ => (Kd.freshB (g := gb248) (o := .cells #[.int .i64 t245, .int .i64 t246] 48 (0, 0)) (B1_ BK248.out) k_ hn_)), Or.elim hk_ (fun hs_ => hs_.2.2.2.2.1) (fun hn_ => (Kd.freshB (g := gb254) (o := .cells #[.slice Ao40 t249.length co40] 24 (0, 0)) (B1_ BK254.out) k_ hn_)), Or.elim hk_ (fun hs_ => hs_.2.2.2.2.2) (fun hn_ => (Kd.freshB (g := gb255) (o := .cells #[.int .i64 t252, .int .i64 t253] 48 (0, 0)) (B1_ BK255.out) k_ hn_))⟩)) (below_size W2_))
          have n4_ := Aside0.mk (blk_below (B1_ BK247.out) hb)
          have n5_ := Aside0.mk (blk_below (B1_ BK248.out) hb)
          have n6_ := Aside0.mk (blk_below (B1_ BK254.out) hb)
          have n7_ := Aside0.mk (blk_below (B1_ BK255.out) hb)
          have n8_ := Aside0.mk (below_step W2_ hb)
          clear HO_29
          clear HO244
          clear HO251
          clear BK247
          clear BK248
          clear BK254
          clear BK255
          clear HB
          have HO_29 := n0_
          have HO244 := n1_
          have HO251 := n2_
          have HO258 := n3_
          have BK247 := n4_
          have BK248 := n5_
          have BK254 := n6_
          have BK255 := n7_
          have HB := n8_
          clear n0_ n1_ n2_ n3_ n4_ n5_ n6_ n7_ n8_
          (try clear hb)
          (try clear hb2)
          (try clear hk)
          (try clear hi)
          (try clear ho0)
          refine hK.out _ _ ⟨xC_ BK248.out 0, xC_ BK248.out 1, xC_ BK255.out 0, xC_ BK255.out 1, xC_ BK247.out 0, xC_ BK254.out 0⟩ (fun hHeld => ?_)
          clear hK K
          refine norm_ (a' := ?_) ?_ ?_
          rotate_left
          ·
           show Act.put _ (some 80) _ = _
           simp only [Act.put, sA_, sZ_, sS_, i64_w, i32_w]
           rfl
          refine one_ (i := 9) (N := some 82) #[true, true, true, true, true, true, true, true, true, true, false, false, false] rfl rfl (one_of HT_.out (by kernel_rfl)) (by decide) (fun K hK => ?_)
          refine goes_ Tryd.func11 (by kernel_rfl) rfl #[.agg #[.slice Ao40 t249.length co40]] (by rfl) rfl rfl T1_ ?_
          with_reducible refine (pantrymade_Config.calls k2 (fun k_ => ((some k_ ≠ (.slice Ao11 t237.length co11 : Value).ownBlock ∧ (some k_ ≠ (.slice Ao33 t242.length co33 : Value).ownBlock ∧ (k_ ≠ gb247 ∧ (k_ ≠ gb248 ∧ (k_ ≠ gb254 ∧ k_ ≠ gb255))))) ∧ some k_ ≠ (v257 : Value).ownBlock)) _ _ t249 t259 _ ?side1 A28.out).mono ?_
          (case side1 => exact Kd.N_V (HO251.out))
          rintro e w51 ⟨v260, rfl, ho0, hb⟩
          refine ⟨_, rfl, ?_⟩
          have n0_ := Aside0.mk (Kd.R_below (R1_ HO_29.out) hb)
          have n1_ := Aside0.mk (Kd.N_elder' (by (with_reducible repeat (first | apply Kd.N_alloc | apply Kd.N_drewN | apply Kd.N_drew)); exact HO244.out) (by first | exact Kd.N_base ho0 | exact Kd.S_base ho0) hb)
          have n2_ := Aside0.mk (Kd.N_elder' (by (with_reducible repeat (first | apply Kd.N_alloc | apply Kd.N_drewN | apply Kd.N_drew)); exact HO251.out) (by first | exact Kd.N_base ho0 | exact Kd.S_base ho0) hb)
          have n3_ := Aside0.mk (Kd.N_elder' (by (with_reducible repeat (first | apply Kd.N_alloc | apply Kd.N_drewN | apply Kd.N_drew)); exact HO258.out) (by first | exact Kd.N_base ho0 | exact Kd.S_base ho0) hb)
          have n4_ := Aside0.mk (Kd.N_lower (Kd.N_mono (ok' := fun k_ => some k_ ≠ (.slice Ao11 t237.length co11 : Value).ownBlock ∧ some k_ ≠ (.slice Ao33 t242.length co33 : Value).ownBlock ∧ some k_ ≠ (v257 : Value).ownBlock ∧ k_ ≠ gb247 ∧ k_ ≠ gb248 ∧ k_ ≠ gb254 ∧ k_ ≠ gb255) ho0 (fun k_ hk_ => ⟨Or.elim hk_ (fun hs_ => hs_.1.1) (fun hn_ => (Kd.fresh' (Kd.R_lt (R1_ HO_29.out)) k_ hn_)), Or.elim hk_ (fun hs_ => hs_.1.2.1) (fun hn_ => (Kd.fresh' (Kd.N_lt (by (with_reducible repeat (first | apply Kd.N_alloc | apply Kd.N_drewN | apply Kd.N_drew)); exact HO244.out)) k_ hn_)), Or.elim hk_ (fun hs_ => hs_.2) (fun hn_ => (Kd.fresh' (Kd.N_lt (by (with_reducible repeat (first | apply Kd.N_alloc | apply Kd.N_drewN | apply Kd.N_drew)); exact HO258.out)) k_ hn_)), Or.elim hk_ (fun hs_ => hs_.1.2.2.1) (fun hn_ => (Kd.freshB (g := gb247) (o := .cells #[.slice Ao33 t242.length co33] 24 (0, 0)) (B1_ BK247.out) k_ hn_)), Or.elim hk_ (fun hs_ => hs_.1.2.2.2.1) (fun hn_ => (Kd.freshB (g := gb248) (o := .cells #[.int .i64 t245, .int .i64 t246] 48 (0, 0)) (B1_ BK248.out) k_ hn_)), Or.elim hk_ (fun hs_ => hs_.1.2.2.2.2.1) (fun hn_ => (Kd.freshB (g := gb254) (o := .cells #[.slice Ao40 t249.length co40] 24 (0, 0)) (B1_ BK254.out) k_ hn_)), Or.elim hk_ (fun hs_ => hs_.1.2.2.2.2.2) (fun hn_ => (Kd.freshB (g := gb255) (o := .cells #[.int .i64 t252, .int .i64 t253] 48 (0, 0)) (B1_ BK255.out) k_ hn_))⟩)) (below_size W2_))
          have n5_ := Aside0.mk (blk_below (B1_ BK247.out) hb)
          have n6_ := Aside0.mk (blk_below (B1_ BK248.out) hb)
          have n7_ := Aside0.mk (blk_below (B1_ BK254.out) hb)
          have n8_ := Aside0.mk (blk_below (B1_ BK255.out) hb)
          have n9_ := Aside0.mk (below_step W2_ hb)
          clear HO_29
          clear HO244
          clear HO251
          clear HO258
          clear BK247
          clear BK248
          clear BK254
          clear BK255
          clear HB
          have HO_29 := n0_
          have HO244 := n1_
          have HO251 := n2_
          have HO258 := n3_
          have HO261 := n4_
          have BK247 := n5_
          have BK248 := n6_
          have BK254 := n7_
          have BK255 := n8_
          have HB := n9_
          clear n0_ n1_ n2_ n3_ n4_ n5_ n6_ n7_ n8_ n9_
          (try clear hb)
          (try clear hb2)
          (try clear hk)
          (try clear hi)
          (try clear ho0)
          obtain ⟨Ao52, co52, eo52⟩ := Kd.N_slice HO258.out
          (first | subst eo52 | (injection eo52 with f1_ f2_ f3_; have f4_ := f1_.symm; have f5_ := f3_.symm; clear f1_ f2_ f3_; subst f4_; subst f5_))
          obtain ⟨Ao53, co53, eo53⟩ := Kd.N_slice HO261.out
          (first | subst eo53 | (injection eo53 with f1_ f2_ f3_; have f4_ := f1_.symm; have f5_ := f3_.symm; clear f1_ f2_ f3_; subst f4_; subst f5_))
          refine hK.out _ _ ⟨xC_ BK248.out 0, xC_ BK248.out 1, xC_ BK255.out 0, xC_ BK255.out 1, xC_ BK247.out 0, xC_ BK254.out 0⟩ (fun hHeld => ?_)
          clear hK K
          refine norm_ (a' := ?_) ?_ ?_
          rotate_left
          ·
           show Act.put _ (some 82) _ = _
           simp only [Act.put, sA_, sZ_, sS_, i64_w, i32_w]
           rfl
          refine one_ (i := 10) (N := some 83) #[true, true, true, true, true, true, true, true, true, true, true, false, false] rfl rfl (one_of HT_.out (by kernel_rfl)) (by decide) (fun K hK => ?_)
          refine goes_ Tryd.func17 (by kernel_rfl) rfl #[.agg #[.slice Ao52 t256.length co52], .agg #[.slice Ao53 t259.length co53]] (by rfl) rfl rfl T1_ ?_
          with_reducible refine (pantryref09_Same.calls k2 _ _ t256 _ _ t259 t262 _ ?side1 ?side2 ?side3 ?side4 A29.out).mono ?_
          (case side1 => exact C1_ ((Kd.N_reads' HO258.out).2.2))
          (case side2 => exact (Kd.N_reads' HO258.out).2.1)
          (case side3 => exact C1_ ((Kd.N_reads' HO261.out).2.2))
          (case side4 => exact (Kd.N_reads' HO261.out).2.1)
          rintro e w54 ⟨rfl, hb⟩
          refine ⟨_, rfl, ?_⟩
          have n0_ := Aside0.mk (Kd.R_below (R1_ HO_29.out) hb)
          have n1_ := Aside0.mk (Kd.N_below (by (with_reducible repeat (first | apply Kd.N_alloc | apply Kd.N_drewN | apply Kd.N_drew)); exact HO244.out) hb)
          have n2_ := Aside0.mk (Kd.N_below (by (with_reducible repeat (first | apply Kd.N_alloc | apply Kd.N_drewN | apply Kd.N_drew)); exact HO251.out) hb)
          have n3_ := Aside0.mk (Kd.N_below (by (with_reducible repeat (first | apply Kd.N_alloc | apply Kd.N_drewN | apply Kd.N_drew)); exact HO258.out) hb)
          have n4_ := Aside0.mk (Kd.N_below (by (with_reducible repeat (first | apply Kd.N_alloc | apply Kd.N_drewN | apply Kd.N_drew)); exact HO261.out) hb)
          have n5_ := Aside0.mk (blk_below (B1_ BK247.out) hb)
          have n6_ := Aside0.mk (blk_below (B1_ BK248.out) hb)
          have n7_ := Aside0.mk (blk_below (B1_ BK254.out) hb)
          have n8_ := Aside0.mk (blk_below (B1_ BK255.out) hb)
          have n9_ := Aside0.mk (below_step W2_ hb)
          clear HO_29
          clear HO244
          clear HO251
          clear HO258
          clear HO261
          clear BK247
          clear BK248
          clear BK254
          clear BK255
          clear HB
          have HO_29 := n0_
          have HO244 := n1_
          have HO251 := n2_
          have HO258 := n3_
          have HO261 := n4_
          have BK247 := n5_
          have BK248 := n6_
          have BK254 := n7_
          have BK255 := n8_
          have HB := n9_
          clear n0_ n1_ n2_ n3_ n4_ n5_ n6_ n7_ n8_ n9_
          (try clear hb)
          (try clear hb2)
          (try clear hk)
          (try clear hi)
          refine hK.out _ _ ⟨xC_ BK248.out 0, xC_ BK248.out 1, xC_ BK255.out 0, xC_ BK255.out 1, xC_ BK247.out 0, xC_ BK254.out 0⟩ (fun hHeld => ?_)
          clear hK K
          refine norm_ (a' := ?_) ?_ ?_
          rotate_left
          ·
           show Act.put _ (some 83) _ = _
           simp only [Act.put, sA_, sZ_, sS_, i64_w, i32_w]
           rfl
          refine pure_ (i := 11) (N := some 84) (v := ?_) (a' := ?_) #[true, true, true, true, true, true, true, true, true, true, true, true, false] rfl rfl (any_of HT_.out (by kernel_rfl)) (fun _ _ _ h => h) (Or.inl ⟨by rfl, ?_⟩) ?_ ?_
          rotate_left
          ·
           intro w'
           go_simp
           with_reducible rfl
          rotate_left
          ·
           simp only [Act.put, sA_, sZ_, sS_, i64_w, i32_w]
           rfl
          refine pure_ (i := 12) (N := some 4) (v := ?_) (a' := ?_) #[true, true, true, true, true, true, true, true, true, true, true, true, true] rfl rfl (any_of HT_.out (by kernel_rfl)) (fun _ _ _ h => h) (Or.inl ⟨by rfl, ?_⟩) ?_ ?_
          rotate_left
          ·
           intro w'
           go_simp
           with_reducible rfl
          rotate_left
          ·
           simp only [Act.put, sA_, sZ_, sS_, i64_w, i32_w]
           rfl
          refine done_ (done_of HT_.out (by kernel_rfl)) ?_
          try go_wp2
          go_ret
          exact ⟨E1_, W2_⟩
         ·
          rw [if_neg c26] at H
          have c26b0 : (t245 == t252) = false := beq_eq_false_iff_ne.mpr c26
          have c26b1 : (t245 != t252) = true := bne_iff_ne.mpr c26
          exact absurd H (by simp)
 ·
  replace c4 := Bool.eq_false_iff.mpr c4
  subst c4
  rw [if_neg (show ¬ (false = true) by decide)] at H
  exact absurd H (by simp)

/-- THE ONE PURE STATEMENT of pantrylaw09_ConfBlanks: yours. -/
def pantrylaw09_ConfBlanks.Pure : Prop := ∀ (a0 : ByteArray) (l1 : List Int), a0.size ≤ 140737488351232 → l1.length ≤ maxLen → l1.length * 8 ≤ 140737488351232 → (∀ x ∈ l1, (Lit.int .i64 x).wf = true) → ∃ k, pantrylaw09_ConfBlanks.f k a0 l1 = some true
theorem pantrylaw09_ConfBlanks.walk (P : pantrylaw09_ConfBlanks.Pure) (a0 : ByteArray) (a1 : Option Addr) (len1 cap1 : Nat) (z1 : List Int) (w : World) (w0 : a0.size ≤ 140737488351232) (w1 : (a1 = none ∧ len1 = 0 ∧ cap1 = 0 ∧ z1 = []) ∨ ∃ x, a1 = some x ∧ len1 ≤ cap1 ∧ cap1 ≤ maxLen ∧ z1.length = cap1 ∧ (∀ i, i < z1.length → w.cell? (x.add i) = some (.int .i64 (z1.getD i 0))) ∧ ∀ n ∈ z1, (Lit.int .i64 n).wf = true) (y1 : len1 * 8 ≤ 140737488351232) (hrW : WF w) :
  Calls Tryd.prog 4 #[.string a0, .slice a1 len1 cap1] w fun e w' => e = .returned (.bool true) ∧ Below w.heap.size w w' := by
 obtain ⟨l1, rfl, hr1, hm1, hw1, hc1⟩ := ReadsInt.ofRowC w1
 obtain ⟨k, h⟩ := P a0 l1 w0 hm1 y1 hw1
 refine (pantrylaw09_ConfBlanks.calls k a0 _ _ l1 true w (Kd.C_of_reads (d := (0 : Int)) (h1 := fun _ => rfl) hr1) hc1 hrW h).mono ?_
 rintro e w' ⟨rfl, hd⟩
 exact ⟨rfl, hd⟩

end Go.Proofs.YtfcifigemiafgaaDoor.PAll
