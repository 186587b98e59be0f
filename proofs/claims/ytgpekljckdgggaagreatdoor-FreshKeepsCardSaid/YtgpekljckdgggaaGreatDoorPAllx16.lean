import Derived.Test.YtgpekljckdgggaaGreatDoorPAllx0
import Derived.Test.YtgpekljckdgggaaGreatDoorPAllx12
import Derived.Test.YtgpekljckdgggaaGreatDoorPAllx14
import Derived.Test.YtgpekljckdgggaaGreatDoorPAllx15
namespace Go.Proofs.YtgpekljckdgggaaGreatDoor.PAll
open Go.RowKit Go.Proofs.YtgpekljckdgggaaGreatDoorW.PrintWords Go.Proofs.YtgpekljckdgggaaGreatDoorW.PrintLast Go.Proofs.YtgpekljckdgggaaGreatDoorW.PrintMore
attribute [local go_sem] max2_int min2_int max_two min_two max_three min_three max_four min_four   -- for this text's walks alone
set_option linter.unusedVariables false
set_option linter.unusedSimpArgs false

/-! ### pantryref01_Unquote: function 109 -/
mutual
def pantryref01_Unquote.j0 : Nat → ByteArray → Bool → Option (ByteArray × Bool)
 | 0, _, _ => none
 | k + 1, x0, x25 => if x25 = true then (some ((⟨#[]⟩ : ByteArray), false)) else (if 1 ≤ (wrap64 ((x0.size : Int) - 1)) then (if (wrap64 ((x0.size : Int) - 1)) ≤ (x0.size : Int) then (pantryref01_Unquote.l0 k ([] : List Int) (x0.extract 1 ((wrap64 ((x0.size : Int) - 1)) : Int).toNat) 0) else (none)) else (none))
def pantryref01_Unquote.l0 : Nat → List Int → ByteArray → Int → Option (ByteArray × Bool)
 | 0, _, _, _ => none
 | k + 1, x4, x5, x6 => if x6 < (x5.size : Int) then (if 0 ≤ x6 then (if (bt x5 x6) = 34 then (some ((⟨#[]⟩ : ByteArray), false)) else (if (bt x5 x6) = 92 then (if (wrap64 (x6 + 1)) = (x5.size : Int) then (some ((⟨#[]⟩ : ByteArray), false)) else (if 0 ≤ (wrap64 (x6 + 1)) then (if (wrap64 (x6 + 1)) < (x5.size : Int) then (if x4.length < 140737488355328 then (pantryref01_Unquote.l0 k (x4 ++ [bt x5 (wrap64 (x6 + 1))]) x5 (wrap64 ((wrap64 (x6 + 1)) + 1))) else (none)) else (none)) else (none))) else (if x4.length < 140737488355328 then (pantryref01_Unquote.l0 k (x4 ++ [bt x5 x6]) x5 (wrap64 (x6 + 1))) else (none)))) else (none)) else (some (strOfNums x4, true))
end
def pantryref01_Unquote.f (k : Nat) (a0 : ByteArray) : Option (ByteArray × Bool) := (pantryref01_Token.f k a0).bind fun t319 => (if t319 = true then (some (a0, true)) else (if (a0.size : Int) < 2 then (pantryref01_Unquote.j0 k a0 true) else (if 0 < (a0.size : Int) then (if (bt a0 0) = 34 then (if 0 ≤ (wrap64 ((a0.size : Int) - 1)) then (if (wrap64 ((a0.size : Int) - 1)) < (a0.size : Int) then (pantryref01_Unquote.j0 k a0 ((bt a0 (wrap64 ((a0.size : Int) - 1))) != 34)) else (none)) else (none)) else (pantryref01_Unquote.j0 k a0 true)) else (none))))
theorem pantryref01_Unquote.mono_l : ∀ k, (∀ y0 y1, LeO (pantryref01_Unquote.j0 k y0 y1) (pantryref01_Unquote.j0 (k + 1) y0 y1)) ∧ (∀ y0 y1 y2, LeO (pantryref01_Unquote.l0 k y0 y1 y2) (pantryref01_Unquote.l0 (k + 1) y0 y1 y2))
 | 0 => ⟨fun _ _ r h => by simp [pantryref01_Unquote.j0] at h, fun _ _ _ r h => by simp [pantryref01_Unquote.l0] at h⟩
 | k + 1 => by
  obtain ⟨ih0, ih1⟩ := pantryref01_Unquote.mono_l k
  refine ⟨?_, ?_⟩
  ·
   intro y0 y1
   unfold pantryref01_Unquote.j0
   repeat' (with_reducible first | exact ih0 _ _ | exact ih1 _ _ _ | exact pantryref01_Token.mono _ _ | exact lR_ | refine LeO.ite ?_ ?_ | refine LeO.bind ?_ (fun _ => ?_))
  ·
   intro y0 y1 y2
   unfold pantryref01_Unquote.l0
   repeat' (with_reducible first | exact ih0 _ _ | exact ih1 _ _ _ | exact pantryref01_Token.mono _ _ | exact lR_ | refine LeO.ite ?_ ?_ | refine LeO.bind ?_ (fun _ => ?_))
theorem pantryref01_Unquote.mono : ∀ a0 k, LeO (pantryref01_Unquote.f k a0) (pantryref01_Unquote.f (k + 1) a0) := by
 intro a0 k
 obtain ⟨ih0, ih1⟩ := pantryref01_Unquote.mono_l k
 unfold pantryref01_Unquote.f
 repeat' (with_reducible first | exact ih0 _ _ | exact ih1 _ _ _ | exact pantryref01_Token.mono _ _ | exact lR_ | refine LeO.ite ?_ ?_ | refine LeO.bind ?_ (fun _ => ?_))
set_option maxHeartbeats 8000000 in
set_option maxRecDepth 100000 in
theorem pantryref01_Unquote.calls (k : Nat) (a0 : ByteArray) (r1 : ByteArray) (r2 : Bool) (w : World) (h : pantryref01_Unquote.f k a0 = some (r1, r2)) :
  Calls Tryz.prog 109 #[.string a0] w fun e w' => e = .returned (.tuple #[.string r1, .bool r2]) ∧ Below w.heap.size w w' := by
 have HB := Aside0.mk (Below.refl w.heap.size w)
 have H : ((pantryref01_Token.f k a0).bind fun t319 => (if t319 = true then (some (a0, true)) else (if (a0.size : Int) < 2 then (pantryref01_Unquote.j0 k a0 true) else (if 0 < (a0.size : Int) then (if (bt a0 0) = 34 then (if 0 ≤ (wrap64 ((a0.size : Int) - 1)) then (if (wrap64 ((a0.size : Int) - 1)) < (a0.size : Int) then (pantryref01_Unquote.j0 k a0 ((bt a0 (wrap64 ((a0.size : Int) - 1))) != 34)) else (none)) else (none)) else (pantryref01_Unquote.j0 k a0 true)) else (none))))) = some (r1, r2) := h
 clear h
 obtain ⟨t319, A2, H⟩ := bS_ H
 try dsimp only at H
 by_cases c3 : t319 = true
 ·
  subst c3
  rw [if_pos rfl] at H
  simp only [Option.some.injEq, Prod.mk.injEq] at H
  obtain ⟨rfl, rfl⟩ := H
  go_enter Tryz.func109, Tryz.ntmps109
  go_wp2_with (first | ((with_reducible refine gate_callee (f := 128) rfl ?_); refine goesL_ (some 8) rfl rfl Tryz.func128 (by kernel_rfl) rfl #[.string a0] rfl T1_ ?_; (with_reducible refine (pantryref01_Token.calls k a0 true _ A2.out).mono ?_); rintro e w' ⟨rfl, ⟨nd, rfl⟩⟩; refine ⟨_, rfl, ?_⟩))
  go_ret2
  exact ⟨E1_, W1_⟩
 ·
  replace c3 := Bool.eq_false_iff.mpr c3
  subst c3
  rw [if_neg (show ¬ (false = true) by decide)] at H
  have HC4 := Aside0.mk H
  clear H
  go_enter Tryz.func109, Tryz.ntmps109
  go_upto_region 3 with (first | ((with_reducible refine gate_callee (f := 128) rfl ?_); refine goesL_ (some 8) rfl rfl Tryz.func128 (by kernel_rfl) rfl #[.string a0] rfl T1_ ?_; (with_reducible refine (pantryref01_Token.calls k a0 false _ A2.out).mono ?_); rintro e w' ⟨rfl, ⟨nd, rfl⟩⟩; refine ⟨_, rfl, ?_⟩))
  (try simp only [Act.put, sA_, sZ_, sS_])
  go_cut [25] (fun v25 wc => ∃ (kq : Nat) (x25_3 : Bool), v25 = .bool x25_3 ∧ Aside0 (pantryref01_Unquote.j0 kq a0 x25_3 = some (r1, r2)) ∧ Aside0 (kq ≤ k) ∧ Aside0 (Below w.heap.size w wc))
  case first =>
   have H := HC4.out
   clear HC4
   by_cases c5 : (a0.size : Int) < 2
   ·
    rw [if_pos c5] at H
    have c5b0 : decide ((a0.size : Int) < 2) = true := decide_eq_true c5
    have c5b1 : decide (a0.size < 2) = true := decide_eq_true (by omega)
    clear c5
    (first | rw [c5b0] | (simp only [i64_w, i32_w]; rw [c5b0]) | skip)
    have H' := Aside0.mk H
    clear H
    go_wp2
    go_meet
    case rel => exact ⟨_, (true), E3_, H', ⟨by first | omega | exact Nat.le_refl _⟩, ⟨W1_⟩⟩
   ·
    rw [if_neg c5] at H
    have c5b0 : decide ((a0.size : Int) < 2) = false := decide_eq_false c5
    have c5b1 : decide (a0.size < 2) = false := decide_eq_false (by omega)
    clear c5
    (first | rw [c5b0] | (simp only [i64_w, i32_w]; rw [c5b0]) | skip)
    by_cases c6 : 0 < (a0.size : Int)
    ·
     rw [if_pos c6] at H
     have c6b0 : decide (0 < (a0.size : Int)) = true := decide_eq_true c6
     have c6b1 : decide (0 < a0.size) = true := decide_eq_true (by omega)
     clear c6
     by_cases c8 : (bt a0 0) = 34
     ·
      rw [if_pos c8] at H
      have c8b0 : ((bt a0 0) == 34) = true := beq_iff_eq.mpr c8
      have c8b1 : ((bt a0 0) != 34) = false := bne_eq_false_iff_eq.mpr c8
      clear c8
      obtain ⟨ji9, hji9⟩ : ∃ j_ : Int, (wrap64 ((a0.size : Int) - 1)) = j_ := ⟨_, rfl⟩
      replace H : (if 0 ≤ (ji9) then (if (ji9) < (a0.size : Int) then (pantryref01_Unquote.j0 k a0 ((bt a0 (ji9)) != 34)) else (none)) else (none)) = some (r1, r2) := by first | (rw [hji9] at H; exact H) | (simp only [hji9] at H ⊢; exact H)
      have hji9w : (IntKind.i64.wrap ((a0.size : Int) - 1)) = ji9 := (i64_w _).trans hji9
      by_cases c10 : 0 ≤ (ji9)
      ·
       rw [if_pos c10] at H
       have c10b0 : decide (0 ≤ (ji9)) = true := decide_eq_true c10
       clear c10
       by_cases c11 : (ji9) < (a0.size : Int)
       ·
        rw [if_pos c11] at H
        have c11b0 : decide ((ji9) < (a0.size : Int)) = true := decide_eq_true c11
        clear c11
        have H' := Aside0.mk H
        clear H
        have p7 : 0 ≤ (0 : Int) := (by omega)
        have q7 : 0 < a0.size := (by have : (0 : Int) < (a0.size : Int) := oA_; omega)
        have hx7 : ∀ h : 0 < a0.size, ((a0[0]'h).toNat : Int) = bt a0 0 := bt_at a0 0
        clear p7
        have qi7 : (0 < (a0.size : Int)) = True := eq_true (oA_)
        replace q7 := eq_true q7
        have p12 : 0 ≤ ((ji9) : Int) := oA_
        have q12 : (ji9) < (a0.size : Int) := oA_
        have hx12 := bt_at a0 (ji9)
        replace p12 := eq_true p12
        replace q12 := eq_true q12
        go_wp2
        go_meet
        case rel => exact ⟨_, (((bt a0 (ji9)) != 34)), (by first | rfl | (simp; done) | (simp only [← hji9] <;> (first | rfl | simp)) | (simp [*]; done)), H', ⟨by first | omega | exact Nat.le_refl _⟩, ⟨W1_⟩⟩
       ·
        rw [if_neg c11] at H
        exact absurd H (by simp)
      ·
       rw [if_neg c10] at H
       exact absurd H (by simp)
     ·
      rw [if_neg c8] at H
      have c8b0 : ((bt a0 0) == 34) = false := beq_eq_false_iff_ne.mpr c8
      have c8b1 : ((bt a0 0) != 34) = true := bne_iff_ne.mpr c8
      have H' := Aside0.mk H
      clear H
      have p7 : 0 ≤ (0 : Int) := (by omega)
      have q7 : 0 < a0.size := (by have : (0 : Int) < (a0.size : Int) := oA_; omega)
      have hx7 : ∀ h : 0 < a0.size, ((a0[0]'h).toNat : Int) = bt a0 0 := bt_at a0 0
      clear p7
      have qi7 : (0 < (a0.size : Int)) = True := eq_true (oA_)
      replace q7 := eq_true q7
      go_wp2
      go_meet
      case rel => exact ⟨_, (true), E3_, H', ⟨by first | omega | exact Nat.le_refl _⟩, ⟨W1_⟩⟩
    ·
     rw [if_neg c6] at H
     exact absurd H (by simp)
  case rest =>
   clear HC4
   (try clear c3); (try clear c5); (try clear c5b0); (try clear c5b1); (try clear c6); (try clear c6b0); (try clear c6b1); (try clear p7); (try clear q7); (try clear hx7); (try clear qi7); (try clear c8); (try clear c8b0); (try clear c8b1); (try clear c10); (try clear c10b0); (try clear c11); (try clear c11b0); (try clear p12); (try clear q12); (try clear hx12); (try clear p12); (try clear p7); (try clear q12); (try clear q7)
   obtain ⟨kq, x25_3, rfl, HA, HJ3, HB⟩ := hcut
   cases kq with
   | zero => exact absurd HA.out (by simp [pantryref01_Unquote.j0])
   | succ kj3 =>
    have H := HA.out
    clear HA
    simp only [pantryref01_Unquote.j0] at H
    by_cases c13 : x25_3 = true
    ·
     subst c13
     rw [if_pos rfl] at H
     simp only [Option.some.injEq, Prod.mk.injEq] at H
     obtain ⟨rfl, rfl⟩ := H
     go_wp2
     go_ret2
     exact ⟨E1_, W1_⟩
    ·
     replace c13 := Bool.eq_false_iff.mpr c13
     subst c13
     rw [if_neg (show ¬ (false = true) by decide)] at H
     by_cases c14 : 1 ≤ (wrap64 ((a0.size : Int) - 1))
     ·
      rw [if_pos c14] at H
      have c14b0 := eq_true c14
      have c14b1 : decide (1 ≤ (wrap64 ((a0.size : Int) - 1))) = true := decide_eq_true c14
      clear c14
      by_cases c15 : (wrap64 ((a0.size : Int) - 1)) ≤ (a0.size : Int)
      ·
       rw [if_pos c15] at H
       have c15b0 := eq_true c15
       have c15b1 : decide ((wrap64 ((a0.size : Int) - 1)) ≤ (a0.size : Int)) = true := decide_eq_true c15
       clear c15
       have H' := Aside0.mk H
       clear H
       go_wp2
       generalize (a0.extract 1 ((wrap64 ((a0.size : Int) - 1)) : Int).toNat) = sx_ at *
       go_loopg [4, 6] kj3 (fun kq v4 v6 w' => ∃ (x4_2 : List Int) (x6_2 : Int), v6 = .int .i64 x6_2 ∧ Aside0 (pantryref01_Unquote.l0 kq x4_2 sx_ x6_2 = some (r1, r2)) ∧ Aside0 (kq ≤ kj3) ∧ Aside0 (Kd.R (Kd.int .u8) 5 w' w.heap.size (fun _ => True) v4 x4_2) ∧ Aside0 (Below w.heap.size w w'))
       case atStart => exact ⟨(([] : List Int)), (0), E3_, H', ⟨Nat.le_refl _⟩, ⟨by first | exact Kd.R_nil _ _ _ _ _ | exact Kd.N_nil _ _ _ _ _ | exact Kd.V_nil _ _ _ _ _ | exact Kd.Q_nil _ _ _ _ _ | exact Kd.S_nil _ _ _ _ _⟩, ⟨W1_⟩⟩
       case round =>
        clear H'
        (try clear c3); (try clear c5); (try clear c5b0); (try clear c5b1); (try clear c6); (try clear c6b0); (try clear c6b1); (try clear p7); (try clear q7); (try clear hx7); (try clear qi7); (try clear c8); (try clear c8b0); (try clear c8b1); (try clear c10); (try clear c10b0); (try clear c11); (try clear c11b0); (try clear p12); (try clear q12); (try clear hx12); (try clear c13); (try clear c14); (try clear c14b0); (try clear c14b1); (try clear c15); (try clear c15b0); (try clear c15b1); (try clear p12); (try clear p7); (try clear q12); (try clear q7)
        obtain ⟨x4_2, x6_2, rfl, HA, HK2, HO_4, HB⟩ := hrel
        cases gk with
        | zero => exact absurd HA.out (by simp [pantryref01_Unquote.l0])
        | succ k2 =>
         have H := HA.out
         clear HA
         simp only [pantryref01_Unquote.l0] at H
         by_cases c16 : x6_2 < (sx_.size : Int)
         ·
          rw [if_pos c16] at H
          have c16b0 : decide (x6_2 < (sx_.size : Int)) = true := decide_eq_true c16
          clear c16
          by_cases c17 : 0 ≤ x6_2
          ·
           rw [if_pos c17] at H
           have c17b0 : decide (0 ≤ x6_2) = true := decide_eq_true c17
           clear c17
           by_cases c19 : (bt sx_ x6_2) = 34
           ·
            rw [if_pos c19] at H
            have c19b0 : ((bt sx_ x6_2) == 34) = true := beq_iff_eq.mpr c19
            have c19b1 : ((bt sx_ x6_2) != 34) = false := bne_eq_false_iff_eq.mpr c19
            clear c19
            simp only [Option.some.injEq, Prod.mk.injEq] at H
            obtain ⟨rfl, rfl⟩ := H
            have p18 : 0 ≤ (x6_2 : Int) := oA_
            have q18 : x6_2 < (sx_.size : Int) := oA_
            have hx18 := bt_at sx_ x6_2
            replace p18 := eq_true p18
            replace q18 := eq_true q18
            go_wp2
            go_ret2
            exact ⟨E1_, W1_⟩
           ·
            rw [if_neg c19] at H
            have c19b0 : ((bt sx_ x6_2) == 34) = false := beq_eq_false_iff_ne.mpr c19
            have c19b1 : ((bt sx_ x6_2) != 34) = true := bne_iff_ne.mpr c19
            by_cases c21 : (bt sx_ x6_2) = 92
            ·
             rw [if_pos c21] at H
             have c21b0 : ((bt sx_ x6_2) == 92) = true := beq_iff_eq.mpr c21
             have c21b1 : ((bt sx_ x6_2) != 92) = false := bne_eq_false_iff_eq.mpr c21
             clear c21
             by_cases c22 : (wrap64 (x6_2 + 1)) = (sx_.size : Int)
             ·
              rw [if_pos c22] at H
              have c22b0 : ((wrap64 (x6_2 + 1)) == (sx_.size : Int)) = true := beq_iff_eq.mpr c22
              have c22b1 : ((wrap64 (x6_2 + 1)) != (sx_.size : Int)) = false := bne_eq_false_iff_eq.mpr c22
              clear c22
              simp only [Option.some.injEq, Prod.mk.injEq] at H
              obtain ⟨rfl, rfl⟩ := H
              have p18 : 0 ≤ (x6_2 : Int) := oA_
              have q18 : x6_2 < (sx_.size : Int) := oA_
              have hx18 := bt_at sx_ x6_2
              replace p18 := eq_true p18
              replace q18 := eq_true q18
              have p20 : 0 ≤ (x6_2 : Int) := oA_
              have q20 : x6_2 < (sx_.size : Int) := oA_
              have hx20 := bt_at sx_ x6_2
              replace p20 := eq_true p20
              replace q20 := eq_true q20
              go_wp2
              go_ret2
              exact ⟨E1_, W1_⟩
             ·
              rw [if_neg c22] at H
              have c22b0 : ((wrap64 (x6_2 + 1)) == (sx_.size : Int)) = false := beq_eq_false_iff_ne.mpr c22
              have c22b1 : ((wrap64 (x6_2 + 1)) != (sx_.size : Int)) = true := bne_iff_ne.mpr c22
              obtain ⟨ji23, hji23⟩ : ∃ j_ : Int, (wrap64 (x6_2 + 1)) = j_ := ⟨_, rfl⟩
              replace H : (if 0 ≤ (ji23) then (if (ji23) < (sx_.size : Int) then (if x4_2.length < 140737488355328 then (pantryref01_Unquote.l0 k2 (x4_2 ++ [bt sx_ (ji23)]) sx_ (wrap64 ((ji23) + 1))) else (none)) else (none)) else (none)) = some (r1, r2) := by first | (rw [hji23] at H; exact H) | (simp only [hji23] at H ⊢; exact H)
              (try rw [hji23] at c22b0)
              (try rw [hji23] at c22b1)
              have hji23w : (IntKind.i64.wrap (x6_2 + 1)) = ji23 := (i64_w _).trans hji23
              by_cases c24 : 0 ≤ (ji23)
              ·
               rw [if_pos c24] at H
               have c24b0 : decide (0 ≤ (ji23)) = true := decide_eq_true c24
               clear c24
               by_cases c25 : (ji23) < (sx_.size : Int)
               ·
                rw [if_pos c25] at H
                have c25b0 : decide ((ji23) < (sx_.size : Int)) = true := decide_eq_true c25
                clear c25
                by_cases c27 : x4_2.length < 140737488355328
                ·
                 rw [if_pos c27] at H
                 have LMc27 := Aside0.mk c27
                 clear c27
                 obtain ⟨y320, hy320⟩ : ∃ y_ : List Int, y_ = (x4_2 ++ [bt sx_ (ji23)]) := ⟨_, rfl⟩
                 replace H : (pantryref01_Unquote.l0 k2 y320 sx_ (wrap64 ((ji23) + 1))) = some (r1, r2) := by first | (rw [hy320]; with_reducible exact H) | (have H2_ := (Option.bind_some _ _).symm.trans H; rw [hy320]; with_reducible exact H2_) | (have H2_ := (Option.bind_some _ _).symm.trans H; with_reducible exact H2_) | with_reducible exact H | (rw [hy320]; exact H) | exact H
                 have Ny320 := Aside0.mk hy320
                 clear hy320
                 have H' := Aside0.mk H
                 clear H
                 have p18 : 0 ≤ (x6_2 : Int) := oA_
                 have q18 : x6_2 < (sx_.size : Int) := oA_
                 have hx18 := bt_at sx_ x6_2
                 replace p18 := eq_true p18
                 replace q18 := eq_true q18
                 have p20 : 0 ≤ (x6_2 : Int) := oA_
                 have q20 : x6_2 < (sx_.size : Int) := oA_
                 have hx20 := bt_at sx_ x6_2
                 replace p20 := eq_true p20
                 replace q20 := eq_true q20
                 have p26 : 0 ≤ ((ji23) : Int) := oA_
                 have q26 : (ji23) < (sx_.size : Int) := oA_
                 have hx26 := bt_at sx_ (ji23)
                 replace p26 := eq_true p26
                 replace q26 := eq_true q26
                 go_wp2_with (first | ((with_reducible refine gate_builtin (b := .append) (xs := #[.tmp 51, .tmp 55]) rfl ?_); (try (refine gate_guard (by rfl) ?_; dsimp only)); at_builtin; refine Kd.R_append (Kd.int .u8) (w0 := w) w.heap.size rfl (.tmp 51) (.tmp 55) 80 5 (.int .u8 0) 1 rfl Tryz.underlying80 info5 rfl (by decide) (by omega) u4 x4_2 (bt sx_ (ji23)) [.int .u8 (bt sx_ (ji23))] (fun _ => True) (fun _ => False) rfl rfl ?aP (fun _ hk => hk.elim) ?aF ?aO ?aB ?aS ?aL ?_; (case aP => exact rfl); (case aB => exact W1_); (case aF => exact (fun _ _ => trivial)); (case aO => exact (R1_ HO_4.out)); (case aS => exact (below_size W1_)); (case aL => have := LMc27.out; omega); intro v321 w28 ho hb hg hat; rw [← Ny320.out] at ho; have n0_ := Aside0.mk (hb); have n1_ := Aside0.mk (ho); clear HB; clear HO_4; have HB := n0_; have HO322 := n1_; clear n0_ n1_; clear ho hb hg hat))
                 go_roundg k2
                 case measure => have := HJ3.out; have := HK2.out; omega
                 case rel => exact ⟨(y320), (wrap64 ((ji23) + 1)), (by first | rfl | (simp; done) | (simp only [← hji23] <;> (first | rfl | simp)) | (simp [*]; done)), H', ⟨by have := HJ3.out; have := HK2.out; omega⟩, ⟨R1_ HO322.out⟩, ⟨W1_⟩⟩
                ·
                 rw [if_neg c27] at H
                 exact absurd H (by simp)
               ·
                rw [if_neg c25] at H
                exact absurd H (by simp)
              ·
               rw [if_neg c24] at H
               exact absurd H (by simp)
            ·
             rw [if_neg c21] at H
             have c21b0 : ((bt sx_ x6_2) == 92) = false := beq_eq_false_iff_ne.mpr c21
             have c21b1 : ((bt sx_ x6_2) != 92) = true := bne_iff_ne.mpr c21
             by_cases c30 : x4_2.length < 140737488355328
             ·
              rw [if_pos c30] at H
              have LMc30 := Aside0.mk c30
              clear c30
              obtain ⟨y323, hy323⟩ : ∃ y_ : List Int, y_ = (x4_2 ++ [bt sx_ x6_2]) := ⟨_, rfl⟩
              replace H : (pantryref01_Unquote.l0 k2 y323 sx_ (wrap64 (x6_2 + 1))) = some (r1, r2) := by first | (rw [hy323]; with_reducible exact H) | (have H2_ := (Option.bind_some _ _).symm.trans H; rw [hy323]; with_reducible exact H2_) | (have H2_ := (Option.bind_some _ _).symm.trans H; with_reducible exact H2_) | with_reducible exact H | (rw [hy323]; exact H) | exact H
              have Ny323 := Aside0.mk hy323
              clear hy323
              have H' := Aside0.mk H
              clear H
              have p18 : 0 ≤ (x6_2 : Int) := oA_
              have q18 : x6_2 < (sx_.size : Int) := oA_
              have hx18 := bt_at sx_ x6_2
              replace p18 := eq_true p18
              replace q18 := eq_true q18
              have p20 : 0 ≤ (x6_2 : Int) := oA_
              have q20 : x6_2 < (sx_.size : Int) := oA_
              have hx20 := bt_at sx_ x6_2
              replace p20 := eq_true p20
              replace q20 := eq_true q20
              have p29 : 0 ≤ (x6_2 : Int) := oA_
              have q29 : x6_2 < (sx_.size : Int) := oA_
              have hx29 := bt_at sx_ x6_2
              replace p29 := eq_true p29
              replace q29 := eq_true q29
              go_wp2_with (first | ((with_reducible refine gate_builtin (b := .append) (xs := #[.tmp 51, .tmp 55]) rfl ?_); (try (refine gate_guard (by rfl) ?_; dsimp only)); at_builtin; refine Kd.R_append (Kd.int .u8) (w0 := w) w.heap.size rfl (.tmp 51) (.tmp 55) 80 5 (.int .u8 0) 1 rfl Tryz.underlying80 info5 rfl (by decide) (by omega) u4 x4_2 (bt sx_ x6_2) [.int .u8 (bt sx_ x6_2)] (fun _ => True) (fun _ => False) rfl rfl ?aP (fun _ hk => hk.elim) ?aF ?aO ?aB ?aS ?aL ?_; (case aP => exact rfl); (case aB => exact W1_); (case aF => exact (fun _ _ => trivial)); (case aO => exact (R1_ HO_4.out)); (case aS => exact (below_size W1_)); (case aL => have := LMc30.out; omega); intro v324 w31 ho hb hg hat; rw [← Ny323.out] at ho; have n0_ := Aside0.mk (hb); have n1_ := Aside0.mk (ho); clear HB; clear HO_4; have HB := n0_; have HO325 := n1_; clear n0_ n1_; clear ho hb hg hat))
              go_roundg k2
              case measure => have := HJ3.out; have := HK2.out; omega
              case rel => exact ⟨(y323), (wrap64 (x6_2 + 1)), E3_, H', ⟨by have := HJ3.out; have := HK2.out; omega⟩, ⟨R1_ HO325.out⟩, ⟨W1_⟩⟩
             ·
              rw [if_neg c30] at H
              exact absurd H (by simp)
          ·
           rw [if_neg c17] at H
           exact absurd H (by simp)
         ·
          rw [if_neg c16] at H
          have c16b0 : decide (x6_2 < (sx_.size : Int)) = false := decide_eq_false c16
          clear c16
          simp only [Option.some.injEq, Prod.mk.injEq] at H
          obtain ⟨rfl, rfl⟩ := H
          have hcv32 := own_string (P := Tryz.prog) Tryz.underlying80 Tryz.underlying5 Tryz.underlying9 (Kd.own_of_R HO_4.out)
          go_wp2
          go_ret2
          exact ⟨E1_, W1_⟩
      ·
       rw [if_neg c15] at H
       exact absurd H (by simp)
     ·
      rw [if_neg c14] at H
      exact absurd H (by simp)

/-! ### pantryref04_seconds: function 81 -/
def pantryref04_seconds.f (k : Nat) (a0 : ByteArray) (a1 : Int) : Option (Int) := (pantryref01_Unquote.f k a0).bind fun bt326 => (if bt326.2 = true then ((pantryref01_Number.f k bt326.1).bind fun bt328 => (if bt328.2 = true then (some bt328.1) else (some a1))) else (some a1))
theorem pantryref04_seconds.mono : ∀ a0 a1 k, LeO (pantryref04_seconds.f k a0 a1) (pantryref04_seconds.f (k + 1) a0 a1) := by
 intro a0 a1 k
 unfold pantryref04_seconds.f
 repeat' (with_reducible first | exact pantryref01_Number.mono _ _ | exact pantryref01_Unquote.mono _ _ | exact lR_ | refine LeO.ite ?_ ?_ | refine LeO.bind ?_ (fun _ => ?_))
set_option maxHeartbeats 8000000 in
set_option maxRecDepth 100000 in
theorem pantryref04_seconds.calls (k : Nat) (a0 : ByteArray) (a1 : Int) (r : Int) (w : World) (h : pantryref04_seconds.f k a0 a1 = some r) :
  Calls Tryz.prog 81 #[.string a0, .int .i64 a1] w fun e w' => e = .returned (.int .i64 r) ∧ Below w.heap.size w w' := by
 have HB := Aside0.mk (Below.refl w.heap.size w)
 have H : ((pantryref01_Unquote.f k a0).bind fun bt326 => (if bt326.2 = true then ((pantryref01_Number.f k bt326.1).bind fun bt328 => (if bt328.2 = true then (some bt328.1) else (some a1))) else (some a1))) = some r := h
 clear h
 obtain ⟨⟨t326, t327⟩, A3, H⟩ := bS_ H
 try dsimp only at H
 by_cases c4 : t327 = true
 ·
  subst c4
  rw [if_pos rfl] at H
  obtain ⟨⟨t328, t329⟩, A5, H⟩ := bS_ H
  try dsimp only at H
  by_cases c6 : t329 = true
  ·
   subst c6
   rw [if_pos rfl] at H
   obtain rfl := Option.some.inj H
   go_enter Tryz.func81, Tryz.ntmps81
   go_wp2_with (first | ((with_reducible refine gate_callee (f := 109) rfl ?_); refine goesL_ (some 11) rfl rfl Tryz.func109 (by kernel_rfl) rfl #[.string a0] rfl T1_ ?_; (with_reducible refine (pantryref01_Unquote.calls k a0 t326 true _ A3.out).mono ?_); rintro e w7 ⟨rfl, hb⟩; refine ⟨_, rfl, ?_⟩; replace HB := y1_ hb; (try clear hb)) | ((with_reducible refine gate_callee (f := 40) rfl ?_); refine goesL_ (some 19) rfl rfl Tryz.func40 (by kernel_rfl) rfl #[.string t326] rfl T1_ ?_; (with_reducible refine (pantryref01_Number.calls k t326 t328 true _ A5.out).mono ?_); rintro e w' ⟨rfl, ⟨nd, rfl⟩⟩; refine ⟨_, rfl, ?_⟩))
   go_ret
   exact ⟨E1_, W1_⟩
  ·
   replace c6 := Bool.eq_false_iff.mpr c6
   subst c6
   rw [if_neg (show ¬ (false = true) by decide)] at H
   obtain rfl := Option.some.inj H
   go_enter Tryz.func81, Tryz.ntmps81
   go_wp2_with (first | ((with_reducible refine gate_callee (f := 109) rfl ?_); refine goesL_ (some 11) rfl rfl Tryz.func109 (by kernel_rfl) rfl #[.string a0] rfl T1_ ?_; (with_reducible refine (pantryref01_Unquote.calls k a0 t326 true _ A3.out).mono ?_); rintro e w8 ⟨rfl, hb⟩; refine ⟨_, rfl, ?_⟩; replace HB := y1_ hb; (try clear hb)) | ((with_reducible refine gate_callee (f := 40) rfl ?_); refine goesL_ (some 19) rfl rfl Tryz.func40 (by kernel_rfl) rfl #[.string t326] rfl T1_ ?_; (with_reducible refine (pantryref01_Number.calls k t326 t328 false _ A5.out).mono ?_); rintro e w' ⟨rfl, ⟨nd, rfl⟩⟩; refine ⟨_, rfl, ?_⟩))
   go_ret
   exact ⟨E1_, W1_⟩
 ·
  replace c4 := Bool.eq_false_iff.mpr c4
  subst c4
  rw [if_neg (show ¬ (false = true) by decide)] at H
  obtain rfl := Option.some.inj H
  go_enter Tryz.func81, Tryz.ntmps81
  go_wp2_with (first | ((with_reducible refine gate_callee (f := 109) rfl ?_); refine goesL_ (some 11) rfl rfl Tryz.func109 (by kernel_rfl) rfl #[.string a0] rfl T1_ ?_; (with_reducible refine (pantryref01_Unquote.calls k a0 t326 false _ A3.out).mono ?_); rintro e w9 ⟨rfl, hb⟩; refine ⟨_, rfl, ?_⟩; replace HB := y1_ hb; (try clear hb)))
  go_ret
  exact ⟨E1_, W1_⟩

/-! ### pantryref04_told: function 57 -/
def pantryref04_told.l0 : Nat → List ByteArray → ByteArray → Int → Int → Bool → Int → Int → Option (Int)
 | 0, _, _, _, _, _, _, _ => none
 | k + 1, x0, x1, x2, x3, x4, x11, x12 => if x12 < (x0.length : Int) then (if 0 ≤ x12 then ((pantryref04_cut.f k (rdOf ByteArray.empty x0 x12)).bind fun bt331 => ((pantryref01_Lower.f k bt331.1).bind fun t334 => (if t334.toList = x1.toList then ((pantryref04_seconds.f k bt331.2.1 x2).bind fun t335 => (if bt331.2.2 = true then (if x11 < 0 then (pantryref04_told.l0 k x0 x1 x2 x3 x4 t335 (wrap64 (x12 + 1))) else (if x4 = true then (if t335 > x11 then (pantryref04_told.l0 k x0 x1 x2 x3 x4 t335 (wrap64 (x12 + 1))) else (pantryref04_told.l0 k x0 x1 x2 x3 x4 x11 (wrap64 (x12 + 1)))) else (if t335 < x11 then (pantryref04_told.l0 k x0 x1 x2 x3 x4 t335 (wrap64 (x12 + 1))) else (pantryref04_told.l0 k x0 x1 x2 x3 x4 x11 (wrap64 (x12 + 1)))))) else (if x11 < 0 then (pantryref04_told.l0 k x0 x1 x2 x3 x4 x3 (wrap64 (x12 + 1))) else (if x4 = true then (if x3 > x11 then (pantryref04_told.l0 k x0 x1 x2 x3 x4 x3 (wrap64 (x12 + 1))) else (pantryref04_told.l0 k x0 x1 x2 x3 x4 x11 (wrap64 (x12 + 1)))) else (if x3 < x11 then (pantryref04_told.l0 k x0 x1 x2 x3 x4 x3 (wrap64 (x12 + 1))) else (pantryref04_told.l0 k x0 x1 x2 x3 x4 x11 (wrap64 (x12 + 1)))))))) else (pantryref04_told.l0 k x0 x1 x2 x3 x4 x11 (wrap64 (x12 + 1)))))) else (none)) else (some x11)
def pantryref04_told.f (k : Nat) (l0 : List ByteArray) (a1 : ByteArray) (a2 : Int) (a3 : Int) (a4 : Bool) : Option (Int) := pantryref04_told.l0 k l0 a1 a2 a3 a4 (-1) 0
theorem pantryref04_told.mono_l : ∀ k, (∀ y0 y1 y2 y3 y4 y5 y6, LeO (pantryref04_told.l0 k y0 y1 y2 y3 y4 y5 y6) (pantryref04_told.l0 (k + 1) y0 y1 y2 y3 y4 y5 y6))
 | 0 => fun _ _ _ _ _ _ _ r h => by simp [pantryref04_told.l0] at h
 | k + 1 => by
  have ih0 := pantryref04_told.mono_l k
  ·
   intro y0 y1 y2 y3 y4 y5 y6
   unfold pantryref04_told.l0
   repeat' (with_reducible first | exact ih0 _ _ _ _ _ _ _ | exact pantryref01_Lower.mono _ _ | exact pantryref04_cut.mono _ _ | exact pantryref04_seconds.mono _ _ _ | exact lR_ | refine LeO.ite ?_ ?_ | refine LeO.bind ?_ (fun _ => ?_))
theorem pantryref04_told.mono : ∀ a0 a1 a2 a3 a4 k, LeO (pantryref04_told.f k a0 a1 a2 a3 a4) (pantryref04_told.f (k + 1) a0 a1 a2 a3 a4) := by
 intro a0 a1 a2 a3 a4 k
 have ih0 := pantryref04_told.mono_l k
 unfold pantryref04_told.f
 repeat' (with_reducible first | exact ih0 _ _ _ _ _ _ _ | exact pantryref01_Lower.mono _ _ | exact pantryref04_cut.mono _ _ | exact pantryref04_seconds.mono _ _ _ | exact lR_ | refine LeO.ite ?_ ?_ | refine LeO.bind ?_ (fun _ => ?_))
set_option maxHeartbeats 8000000 in
set_option maxRecDepth 100000 in
theorem pantryref04_told.calls (k : Nat) (A0 : Option Addr) (c0 : Nat) (l0 : List ByteArray) (a1 : ByteArray) (a2 : Int) (a3 : Int) (a4 : Bool) (r : Int) (w : World) (hr0 : Kd.C Kd.string w A0 l0.length l0) (hc0 : l0.length ≤ c0) (h : pantryref04_told.f k l0 a1 a2 a3 a4 = some r) :
  Calls Tryz.prog 57 #[.slice A0 l0.length c0, .string a1, .int .i64 a2, .int .i64 a3, .bool a4] w fun e w' => e = .returned (.int .i64 r) ∧ Below w.heap.size w w' := by
 have HR0 := Aside0.mk hr0
 have HC0 := Aside0.mk hc0
 clear hr0 hc0
 have HB := Aside0.mk (Below.refl w.heap.size w)
 have H : (pantryref04_told.l0 k l0 a1 a2 a3 a4 (-1) 0) = some r := h
 clear h
 have H' := Aside0.mk H
 clear H
 go_enter Tryz.func57, Tryz.ntmps57
 go_wp2
 go_loopg [11, 12] k (fun kq v11 v12 w' => ∃ (x11_1 : Int) (x12_1 : Int), v11 = .int .i64 x11_1 ∧ v12 = .int .i64 x12_1 ∧ Aside0 (pantryref04_told.l0 kq l0 a1 a2 a3 a4 x11_1 x12_1 = some r) ∧ Aside0 (kq ≤ k) ∧ Aside0 (Below w.heap.size w w'))
 case atStart => exact ⟨((-1)), (0), E3_, E3_, H', ⟨Nat.le_refl _⟩, ⟨W1_⟩⟩
 case round =>
  clear H'
  obtain ⟨x11_1, x12_1, rfl, rfl, HA, HK1, HB⟩ := hrel
  cases gk with
  | zero => exact absurd HA.out (by simp [pantryref04_told.l0])
  | succ k1 =>
   have H := HA.out
   clear HA
   simp only [pantryref04_told.l0] at H
   by_cases c6 : x12_1 < (l0.length : Int)
   ·
    rw [if_pos c6] at H
    have c6b0 : decide (x12_1 < (l0.length : Int)) = true := decide_eq_true c6
    clear c6
    by_cases c7 : 0 ≤ x12_1
    ·
     rw [if_pos c7] at H
     have c7b0 : decide (0 ≤ x12_1) = true := decide_eq_true c7
     clear c7
     obtain ⟨⟨t331, t332, t333⟩, A8, H⟩ := bS_ H
     try dsimp only at H
     obtain ⟨t334, A9, H⟩ := bS_ H
     try dsimp only at H
     by_cases c10 : t334.toList = a1.toList
     ·
      rw [if_pos c10] at H
      have c10b0 : (t334.toList == a1.toList) = true := beq_iff_eq.mpr c10
      have c10b1 : (t334.toList != a1.toList) = false := bne_eq_false_iff_eq.mpr c10
      clear c10
      obtain ⟨t335, A11, H⟩ := bS_ H
      try dsimp only at H
      by_cases c12 : t333 = true
      ·
       subst c12
       rw [if_pos rfl] at H
       by_cases c13 : x11_1 < 0
       ·
        rw [if_pos c13] at H
        have c13b0 : decide (x11_1 < 0) = true := decide_eq_true c13
        clear c13
        have H' := Aside0.mk H
        clear H
        have p330 : 0 ≤ (x12_1 : Int) := oA_
        have q330 : x12_1 < (l0.length : Int) := oA_
        obtain ⟨ad330, e330, hx330_0⟩ := Kd.at_string HR0.out x12_1 p330 q330
        cases e330
        replace hx330_0 := (HB.out.cell (World.block_lt_of_cell? w _ hx330_0)).trans hx330_0
        replace p330 := eq_true p330
        replace q330 := eq_true q330
        go_wp2_with (first | ((with_reducible refine gate_callee (f := 80) rfl ?_); refine goesL_ (some 28) rfl rfl Tryz.func80 (by kernel_rfl) rfl #[.string (rdOf ByteArray.empty l0 x12_1)] rfl T1_ ?_; (with_reducible refine (pantryref04_cut.calls k1 (rdOf ByteArray.empty l0 x12_1) t331 t332 true _ A8.out).mono ?_); rintro e w' ⟨rfl, ⟨nd, rfl⟩⟩; refine ⟨_, rfl, ?_⟩) | ((with_reducible refine gate_callee (f := 61) rfl ?_); refine goesL_ (some 33) rfl rfl Tryz.func61 (by kernel_rfl) rfl #[.string t331] rfl T1_ ?_; (with_reducible refine (pantryref01_Lower.calls k1 t331 t334 _ A9.out).mono ?_); rintro e w14 ⟨rfl, hb⟩; refine ⟨_, rfl, ?_⟩; replace HB := y1_ hb; (try clear hb)) | ((with_reducible refine gate_callee (f := 81) rfl ?_); refine goesL_ (some 38) rfl rfl Tryz.func81 (by kernel_rfl) rfl #[.string t332, .int .i64 a2] rfl T1_ ?_; (with_reducible refine (pantryref04_seconds.calls k1 t332 a2 t335 _ A11.out).mono ?_); rintro e w15 ⟨rfl, hb⟩; refine ⟨_, rfl, ?_⟩; replace HB := y1_ hb; (try clear hb)))
        go_roundg k1
        case measure => have := HK1.out; omega
        case rel => exact ⟨(t335), (wrap64 (x12_1 + 1)), E3_, E3_, H', ⟨by have := HK1.out; omega⟩, ⟨W1_⟩⟩
       ·
        rw [if_neg c13] at H
        have c13b0 : decide (x11_1 < 0) = false := decide_eq_false c13
        clear c13
        by_cases c16 : a4 = true
        ·
         subst c16
         rw [if_pos rfl] at H
         by_cases c17 : t335 > x11_1
         ·
          rw [if_pos c17] at H
          have c17b0 : decide (x11_1 < t335) = true := decide_eq_true c17
          clear c17
          have H' := Aside0.mk H
          clear H
          have p330 : 0 ≤ (x12_1 : Int) := oA_
          have q330 : x12_1 < (l0.length : Int) := oA_
          obtain ⟨ad330, e330, hx330_0⟩ := Kd.at_string HR0.out x12_1 p330 q330
          cases e330
          replace hx330_0 := (HB.out.cell (World.block_lt_of_cell? w _ hx330_0)).trans hx330_0
          replace p330 := eq_true p330
          replace q330 := eq_true q330
          go_wp2_with (first | ((with_reducible refine gate_callee (f := 80) rfl ?_); refine goesL_ (some 28) rfl rfl Tryz.func80 (by kernel_rfl) rfl #[.string (rdOf ByteArray.empty l0 x12_1)] rfl T1_ ?_; (with_reducible refine (pantryref04_cut.calls k1 (rdOf ByteArray.empty l0 x12_1) t331 t332 true _ A8.out).mono ?_); rintro e w' ⟨rfl, ⟨nd, rfl⟩⟩; refine ⟨_, rfl, ?_⟩) | ((with_reducible refine gate_callee (f := 61) rfl ?_); refine goesL_ (some 33) rfl rfl Tryz.func61 (by kernel_rfl) rfl #[.string t331] rfl T1_ ?_; (with_reducible refine (pantryref01_Lower.calls k1 t331 t334 _ A9.out).mono ?_); rintro e w18 ⟨rfl, hb⟩; refine ⟨_, rfl, ?_⟩; replace HB := y1_ hb; (try clear hb)) | ((with_reducible refine gate_callee (f := 81) rfl ?_); refine goesL_ (some 38) rfl rfl Tryz.func81 (by kernel_rfl) rfl #[.string t332, .int .i64 a2] rfl T1_ ?_; (with_reducible refine (pantryref04_seconds.calls k1 t332 a2 t335 _ A11.out).mono ?_); rintro e w19 ⟨rfl, hb⟩; refine ⟨_, rfl, ?_⟩; replace HB := y1_ hb; (try clear hb)))
          go_roundg k1
          case measure => have := HK1.out; omega
          case rel => exact ⟨(t335), (wrap64 (x12_1 + 1)), E3_, E3_, H', ⟨by have := HK1.out; omega⟩, ⟨W1_⟩⟩
         ·
          rw [if_neg c17] at H
          have c17b0 : decide (x11_1 < t335) = false := decide_eq_false c17
          clear c17
          have H' := Aside0.mk H
          clear H
          have p330 : 0 ≤ (x12_1 : Int) := oA_
          have q330 : x12_1 < (l0.length : Int) := oA_
          obtain ⟨ad330, e330, hx330_0⟩ := Kd.at_string HR0.out x12_1 p330 q330
          cases e330
          replace hx330_0 := (HB.out.cell (World.block_lt_of_cell? w _ hx330_0)).trans hx330_0
          replace p330 := eq_true p330
          replace q330 := eq_true q330
          go_wp2_with (first | ((with_reducible refine gate_callee (f := 80) rfl ?_); refine goesL_ (some 28) rfl rfl Tryz.func80 (by kernel_rfl) rfl #[.string (rdOf ByteArray.empty l0 x12_1)] rfl T1_ ?_; (with_reducible refine (pantryref04_cut.calls k1 (rdOf ByteArray.empty l0 x12_1) t331 t332 true _ A8.out).mono ?_); rintro e w' ⟨rfl, ⟨nd, rfl⟩⟩; refine ⟨_, rfl, ?_⟩) | ((with_reducible refine gate_callee (f := 61) rfl ?_); refine goesL_ (some 33) rfl rfl Tryz.func61 (by kernel_rfl) rfl #[.string t331] rfl T1_ ?_; (with_reducible refine (pantryref01_Lower.calls k1 t331 t334 _ A9.out).mono ?_); rintro e w20 ⟨rfl, hb⟩; refine ⟨_, rfl, ?_⟩; replace HB := y1_ hb; (try clear hb)) | ((with_reducible refine gate_callee (f := 81) rfl ?_); refine goesL_ (some 38) rfl rfl Tryz.func81 (by kernel_rfl) rfl #[.string t332, .int .i64 a2] rfl T1_ ?_; (with_reducible refine (pantryref04_seconds.calls k1 t332 a2 t335 _ A11.out).mono ?_); rintro e w21 ⟨rfl, hb⟩; refine ⟨_, rfl, ?_⟩; replace HB := y1_ hb; (try clear hb)))
          go_roundg k1
          case measure => have := HK1.out; omega
          case rel => exact ⟨(x11_1), (wrap64 (x12_1 + 1)), E3_, E3_, H', ⟨by have := HK1.out; omega⟩, ⟨W1_⟩⟩
        ·
         replace c16 := Bool.eq_false_iff.mpr c16
         subst c16
         rw [if_neg (show ¬ (false = true) by decide)] at H
         by_cases c22 : t335 < x11_1
         ·
          rw [if_pos c22] at H
          have c22b0 : decide (t335 < x11_1) = true := decide_eq_true c22
          clear c22
          have H' := Aside0.mk H
          clear H
          have p330 : 0 ≤ (x12_1 : Int) := oA_
          have q330 : x12_1 < (l0.length : Int) := oA_
          obtain ⟨ad330, e330, hx330_0⟩ := Kd.at_string HR0.out x12_1 p330 q330
          cases e330
          replace hx330_0 := (HB.out.cell (World.block_lt_of_cell? w _ hx330_0)).trans hx330_0
          replace p330 := eq_true p330
          replace q330 := eq_true q330
          go_wp2_with (first | ((with_reducible refine gate_callee (f := 80) rfl ?_); refine goesL_ (some 28) rfl rfl Tryz.func80 (by kernel_rfl) rfl #[.string (rdOf ByteArray.empty l0 x12_1)] rfl T1_ ?_; (with_reducible refine (pantryref04_cut.calls k1 (rdOf ByteArray.empty l0 x12_1) t331 t332 true _ A8.out).mono ?_); rintro e w' ⟨rfl, ⟨nd, rfl⟩⟩; refine ⟨_, rfl, ?_⟩) | ((with_reducible refine gate_callee (f := 61) rfl ?_); refine goesL_ (some 33) rfl rfl Tryz.func61 (by kernel_rfl) rfl #[.string t331] rfl T1_ ?_; (with_reducible refine (pantryref01_Lower.calls k1 t331 t334 _ A9.out).mono ?_); rintro e w23 ⟨rfl, hb⟩; refine ⟨_, rfl, ?_⟩; replace HB := y1_ hb; (try clear hb)) | ((with_reducible refine gate_callee (f := 81) rfl ?_); refine goesL_ (some 38) rfl rfl Tryz.func81 (by kernel_rfl) rfl #[.string t332, .int .i64 a2] rfl T1_ ?_; (with_reducible refine (pantryref04_seconds.calls k1 t332 a2 t335 _ A11.out).mono ?_); rintro e w24 ⟨rfl, hb⟩; refine ⟨_, rfl, ?_⟩; replace HB := y1_ hb; (try clear hb)))
          go_roundg k1
          case measure => have := HK1.out; omega
          case rel => exact ⟨(t335), (wrap64 (x12_1 + 1)), E3_, E3_, H', ⟨by have := HK1.out; omega⟩, ⟨W1_⟩⟩
         ·
          rw [if_neg c22] at H
          have c22b0 : decide (t335 < x11_1) = false := decide_eq_false c22
          clear c22
          have H' := Aside0.mk H
          clear H
          have p330 : 0 ≤ (x12_1 : Int) := oA_
          have q330 : x12_1 < (l0.length : Int) := oA_
          obtain ⟨ad330, e330, hx330_0⟩ := Kd.at_string HR0.out x12_1 p330 q330
          cases e330
          replace hx330_0 := (HB.out.cell (World.block_lt_of_cell? w _ hx330_0)).trans hx330_0
          replace p330 := eq_true p330
          replace q330 := eq_true q330
          go_wp2_with (first | ((with_reducible refine gate_callee (f := 80) rfl ?_); refine goesL_ (some 28) rfl rfl Tryz.func80 (by kernel_rfl) rfl #[.string (rdOf ByteArray.empty l0 x12_1)] rfl T1_ ?_; (with_reducible refine (pantryref04_cut.calls k1 (rdOf ByteArray.empty l0 x12_1) t331 t332 true _ A8.out).mono ?_); rintro e w' ⟨rfl, ⟨nd, rfl⟩⟩; refine ⟨_, rfl, ?_⟩) | ((with_reducible refine gate_callee (f := 61) rfl ?_); refine goesL_ (some 33) rfl rfl Tryz.func61 (by kernel_rfl) rfl #[.string t331] rfl T1_ ?_; (with_reducible refine (pantryref01_Lower.calls k1 t331 t334 _ A9.out).mono ?_); rintro e w25 ⟨rfl, hb⟩; refine ⟨_, rfl, ?_⟩; replace HB := y1_ hb; (try clear hb)) | ((with_reducible refine gate_callee (f := 81) rfl ?_); refine goesL_ (some 38) rfl rfl Tryz.func81 (by kernel_rfl) rfl #[.string t332, .int .i64 a2] rfl T1_ ?_; (with_reducible refine (pantryref04_seconds.calls k1 t332 a2 t335 _ A11.out).mono ?_); rintro e w26 ⟨rfl, hb⟩; refine ⟨_, rfl, ?_⟩; replace HB := y1_ hb; (try clear hb)))
          go_roundg k1
          case measure => have := HK1.out; omega
          case rel => exact ⟨(x11_1), (wrap64 (x12_1 + 1)), E3_, E3_, H', ⟨by have := HK1.out; omega⟩, ⟨W1_⟩⟩
      ·
       replace c12 := Bool.eq_false_iff.mpr c12
       subst c12
       rw [if_neg (show ¬ (false = true) by decide)] at H
       by_cases c27 : x11_1 < 0
       ·
        rw [if_pos c27] at H
        have c27b0 : decide (x11_1 < 0) = true := decide_eq_true c27
        clear c27
        have H' := Aside0.mk H
        clear H
        have p330 : 0 ≤ (x12_1 : Int) := oA_
        have q330 : x12_1 < (l0.length : Int) := oA_
        obtain ⟨ad330, e330, hx330_0⟩ := Kd.at_string HR0.out x12_1 p330 q330
        cases e330
        replace hx330_0 := (HB.out.cell (World.block_lt_of_cell? w _ hx330_0)).trans hx330_0
        replace p330 := eq_true p330
        replace q330 := eq_true q330
        go_wp2_with (first | ((with_reducible refine gate_callee (f := 80) rfl ?_); refine goesL_ (some 28) rfl rfl Tryz.func80 (by kernel_rfl) rfl #[.string (rdOf ByteArray.empty l0 x12_1)] rfl T1_ ?_; (with_reducible refine (pantryref04_cut.calls k1 (rdOf ByteArray.empty l0 x12_1) t331 t332 false _ A8.out).mono ?_); rintro e w' ⟨rfl, ⟨nd, rfl⟩⟩; refine ⟨_, rfl, ?_⟩) | ((with_reducible refine gate_callee (f := 61) rfl ?_); refine goesL_ (some 33) rfl rfl Tryz.func61 (by kernel_rfl) rfl #[.string t331] rfl T1_ ?_; (with_reducible refine (pantryref01_Lower.calls k1 t331 t334 _ A9.out).mono ?_); rintro e w28 ⟨rfl, hb⟩; refine ⟨_, rfl, ?_⟩; replace HB := y1_ hb; (try clear hb)) | ((with_reducible refine gate_callee (f := 81) rfl ?_); refine goesL_ (some 38) rfl rfl Tryz.func81 (by kernel_rfl) rfl #[.string t332, .int .i64 a2] rfl T1_ ?_; (with_reducible refine (pantryref04_seconds.calls k1 t332 a2 t335 _ A11.out).mono ?_); rintro e w29 ⟨rfl, hb⟩; refine ⟨_, rfl, ?_⟩; replace HB := y1_ hb; (try clear hb)))
        go_roundg k1
        case measure => have := HK1.out; omega
        case rel => exact ⟨(a3), (wrap64 (x12_1 + 1)), E3_, E3_, H', ⟨by have := HK1.out; omega⟩, ⟨W1_⟩⟩
       ·
        rw [if_neg c27] at H
        have c27b0 : decide (x11_1 < 0) = false := decide_eq_false c27
        clear c27
        by_cases c30 : a4 = true
        ·
         subst c30
         rw [if_pos rfl] at H
         by_cases c31 : a3 > x11_1
         ·
          rw [if_pos c31] at H
          have c31b0 : decide (x11_1 < a3) = true := decide_eq_true c31
          clear c31
          have H' := Aside0.mk H
          clear H
          have p330 : 0 ≤ (x12_1 : Int) := oA_
          have q330 : x12_1 < (l0.length : Int) := oA_
          obtain ⟨ad330, e330, hx330_0⟩ := Kd.at_string HR0.out x12_1 p330 q330
          cases e330
          replace hx330_0 := (HB.out.cell (World.block_lt_of_cell? w _ hx330_0)).trans hx330_0
          replace p330 := eq_true p330
          replace q330 := eq_true q330
          go_wp2_with (first | ((with_reducible refine gate_callee (f := 80) rfl ?_); refine goesL_ (some 28) rfl rfl Tryz.func80 (by kernel_rfl) rfl #[.string (rdOf ByteArray.empty l0 x12_1)] rfl T1_ ?_; (with_reducible refine (pantryref04_cut.calls k1 (rdOf ByteArray.empty l0 x12_1) t331 t332 false _ A8.out).mono ?_); rintro e w' ⟨rfl, ⟨nd, rfl⟩⟩; refine ⟨_, rfl, ?_⟩) | ((with_reducible refine gate_callee (f := 61) rfl ?_); refine goesL_ (some 33) rfl rfl Tryz.func61 (by kernel_rfl) rfl #[.string t331] rfl T1_ ?_; (with_reducible refine (pantryref01_Lower.calls k1 t331 t334 _ A9.out).mono ?_); rintro e w32 ⟨rfl, hb⟩; refine ⟨_, rfl, ?_⟩; replace HB := y1_ hb; (try clear hb)) | ((with_reducible refine gate_callee (f := 81) rfl ?_); refine goesL_ (some 38) rfl rfl Tryz.func81 (by kernel_rfl) rfl #[.string t332, .int .i64 a2] rfl T1_ ?_; (with_reducible refine (pantryref04_seconds.calls k1 t332 a2 t335 _ A11.out).mono ?_); rintro e w33 ⟨rfl, hb⟩; refine ⟨_, rfl, ?_⟩; replace HB := y1_ hb; (try clear hb)))
          go_roundg k1
          case measure => have := HK1.out; omega
          case rel => exact ⟨(a3), (wrap64 (x12_1 + 1)), E3_, E3_, H', ⟨by have := HK1.out; omega⟩, ⟨W1_⟩⟩
         ·
          rw [if_neg c31] at H
          have c31b0 : decide (x11_1 < a3) = false := decide_eq_false c31
          clear c31
          have H' := Aside0.mk H
          clear H
          have p330 : 0 ≤ (x12_1 : Int) := oA_
          have q330 : x12_1 < (l0.length : Int) := oA_
          obtain ⟨ad330, e330, hx330_0⟩ := Kd.at_string HR0.out x12_1 p330 q330
          cases e330
          replace hx330_0 := (HB.out.cell (World.block_lt_of_cell? w _ hx330_0)).trans hx330_0
          replace p330 := eq_true p330
          replace q330 := eq_true q330
          go_wp2_with (first | ((with_reducible refine gate_callee (f := 80) rfl ?_); refine goesL_ (some 28) rfl rfl Tryz.func80 (by kernel_rfl) rfl #[.string (rdOf ByteArray.empty l0 x12_1)] rfl T1_ ?_; (with_reducible refine (pantryref04_cut.calls k1 (rdOf ByteArray.empty l0 x12_1) t331 t332 false _ A8.out).mono ?_); rintro e w' ⟨rfl, ⟨nd, rfl⟩⟩; refine ⟨_, rfl, ?_⟩) | ((with_reducible refine gate_callee (f := 61) rfl ?_); refine goesL_ (some 33) rfl rfl Tryz.func61 (by kernel_rfl) rfl #[.string t331] rfl T1_ ?_; (with_reducible refine (pantryref01_Lower.calls k1 t331 t334 _ A9.out).mono ?_); rintro e w34 ⟨rfl, hb⟩; refine ⟨_, rfl, ?_⟩; replace HB := y1_ hb; (try clear hb)) | ((with_reducible refine gate_callee (f := 81) rfl ?_); refine goesL_ (some 38) rfl rfl Tryz.func81 (by kernel_rfl) rfl #[.string t332, .int .i64 a2] rfl T1_ ?_; (with_reducible refine (pantryref04_seconds.calls k1 t332 a2 t335 _ A11.out).mono ?_); rintro e w35 ⟨rfl, hb⟩; refine ⟨_, rfl, ?_⟩; replace HB := y1_ hb; (try clear hb)))
          go_roundg k1
          case measure => have := HK1.out; omega
          case rel => exact ⟨(x11_1), (wrap64 (x12_1 + 1)), E3_, E3_, H', ⟨by have := HK1.out; omega⟩, ⟨W1_⟩⟩
        ·
         replace c30 := Bool.eq_false_iff.mpr c30
         subst c30
         rw [if_neg (show ¬ (false = true) by decide)] at H
         by_cases c36 : a3 < x11_1
         ·
          rw [if_pos c36] at H
          have c36b0 : decide (a3 < x11_1) = true := decide_eq_true c36
          clear c36
          have H' := Aside0.mk H
          clear H
          have p330 : 0 ≤ (x12_1 : Int) := oA_
          have q330 : x12_1 < (l0.length : Int) := oA_
          obtain ⟨ad330, e330, hx330_0⟩ := Kd.at_string HR0.out x12_1 p330 q330
          cases e330
          replace hx330_0 := (HB.out.cell (World.block_lt_of_cell? w _ hx330_0)).trans hx330_0
          replace p330 := eq_true p330
          replace q330 := eq_true q330
          go_wp2_with (first | ((with_reducible refine gate_callee (f := 80) rfl ?_); refine goesL_ (some 28) rfl rfl Tryz.func80 (by kernel_rfl) rfl #[.string (rdOf ByteArray.empty l0 x12_1)] rfl T1_ ?_; (with_reducible refine (pantryref04_cut.calls k1 (rdOf ByteArray.empty l0 x12_1) t331 t332 false _ A8.out).mono ?_); rintro e w' ⟨rfl, ⟨nd, rfl⟩⟩; refine ⟨_, rfl, ?_⟩) | ((with_reducible refine gate_callee (f := 61) rfl ?_); refine goesL_ (some 33) rfl rfl Tryz.func61 (by kernel_rfl) rfl #[.string t331] rfl T1_ ?_; (with_reducible refine (pantryref01_Lower.calls k1 t331 t334 _ A9.out).mono ?_); rintro e w37 ⟨rfl, hb⟩; refine ⟨_, rfl, ?_⟩; replace HB := y1_ hb; (try clear hb)) | ((with_reducible refine gate_callee (f := 81) rfl ?_); refine goesL_ (some 38) rfl rfl Tryz.func81 (by kernel_rfl) rfl #[.string t332, .int .i64 a2] rfl T1_ ?_; (with_reducible refine (pantryref04_seconds.calls k1 t332 a2 t335 _ A11.out).mono ?_); rintro e w38 ⟨rfl, hb⟩; refine ⟨_, rfl, ?_⟩; replace HB := y1_ hb; (try clear hb)))
          go_roundg k1
          case measure => have := HK1.out; omega
          case rel => exact ⟨(a3), (wrap64 (x12_1 + 1)), E3_, E3_, H', ⟨by have := HK1.out; omega⟩, ⟨W1_⟩⟩
         ·
          rw [if_neg c36] at H
          have c36b0 : decide (a3 < x11_1) = false := decide_eq_false c36
          clear c36
          have H' := Aside0.mk H
          clear H
          have p330 : 0 ≤ (x12_1 : Int) := oA_
          have q330 : x12_1 < (l0.length : Int) := oA_
          obtain ⟨ad330, e330, hx330_0⟩ := Kd.at_string HR0.out x12_1 p330 q330
          cases e330
          replace hx330_0 := (HB.out.cell (World.block_lt_of_cell? w _ hx330_0)).trans hx330_0
          replace p330 := eq_true p330
          replace q330 := eq_true q330
          go_wp2_with (first | ((with_reducible refine gate_callee (f := 80) rfl ?_); refine goesL_ (some 28) rfl rfl Tryz.func80 (by kernel_rfl) rfl #[.string (rdOf ByteArray.empty l0 x12_1)] rfl T1_ ?_; (with_reducible refine (pantryref04_cut.calls k1 (rdOf ByteArray.empty l0 x12_1) t331 t332 false _ A8.out).mono ?_); rintro e w' ⟨rfl, ⟨nd, rfl⟩⟩; refine ⟨_, rfl, ?_⟩) | ((with_reducible refine gate_callee (f := 61) rfl ?_); refine goesL_ (some 33) rfl rfl Tryz.func61 (by kernel_rfl) rfl #[.string t331] rfl T1_ ?_; (with_reducible refine (pantryref01_Lower.calls k1 t331 t334 _ A9.out).mono ?_); rintro e w39 ⟨rfl, hb⟩; refine ⟨_, rfl, ?_⟩; replace HB := y1_ hb; (try clear hb)) | ((with_reducible refine gate_callee (f := 81) rfl ?_); refine goesL_ (some 38) rfl rfl Tryz.func81 (by kernel_rfl) rfl #[.string t332, .int .i64 a2] rfl T1_ ?_; (with_reducible refine (pantryref04_seconds.calls k1 t332 a2 t335 _ A11.out).mono ?_); rintro e w40 ⟨rfl, hb⟩; refine ⟨_, rfl, ?_⟩; replace HB := y1_ hb; (try clear hb)))
          go_roundg k1
          case measure => have := HK1.out; omega
          case rel => exact ⟨(x11_1), (wrap64 (x12_1 + 1)), E3_, E3_, H', ⟨by have := HK1.out; omega⟩, ⟨W1_⟩⟩
     ·
      rw [if_neg c10] at H
      have c10b0 : (t334.toList == a1.toList) = false := beq_eq_false_iff_ne.mpr c10
      have c10b1 : (t334.toList != a1.toList) = true := bne_iff_ne.mpr c10
      have H' := Aside0.mk H
      clear H
      have p330 : 0 ≤ (x12_1 : Int) := oA_
      have q330 : x12_1 < (l0.length : Int) := oA_
      obtain ⟨ad330, e330, hx330_0⟩ := Kd.at_string HR0.out x12_1 p330 q330
      cases e330
      replace hx330_0 := (HB.out.cell (World.block_lt_of_cell? w _ hx330_0)).trans hx330_0
      replace p330 := eq_true p330
      replace q330 := eq_true q330
      go_wp2_with (first | ((with_reducible refine gate_callee (f := 80) rfl ?_); refine goesL_ (some 28) rfl rfl Tryz.func80 (by kernel_rfl) rfl #[.string (rdOf ByteArray.empty l0 x12_1)] rfl T1_ ?_; (with_reducible refine (pantryref04_cut.calls k1 (rdOf ByteArray.empty l0 x12_1) t331 t332 t333 _ A8.out).mono ?_); rintro e w' ⟨rfl, ⟨nd, rfl⟩⟩; refine ⟨_, rfl, ?_⟩) | ((with_reducible refine gate_callee (f := 61) rfl ?_); refine goesL_ (some 33) rfl rfl Tryz.func61 (by kernel_rfl) rfl #[.string t331] rfl T1_ ?_; (with_reducible refine (pantryref01_Lower.calls k1 t331 t334 _ A9.out).mono ?_); rintro e w41 ⟨rfl, hb⟩; refine ⟨_, rfl, ?_⟩; replace HB := y1_ hb; (try clear hb)))
      go_roundg k1
      case measure => have := HK1.out; omega
      case rel => exact ⟨(x11_1), (wrap64 (x12_1 + 1)), E3_, E3_, H', ⟨by have := HK1.out; omega⟩, ⟨W1_⟩⟩
    ·
     rw [if_neg c7] at H
     exact absurd H (by simp)
   ·
    rw [if_neg c6] at H
    have c6b0 : decide (x12_1 < (l0.length : Int)) = false := decide_eq_false c6
    clear c6
    obtain rfl := Option.some.inj H
    go_wp2
    go_ret
    exact ⟨E1_, W1_⟩

end Go.Proofs.YtgpekljckdgggaaGreatDoor.PAll
