import Derived.Test.YtgpekljckdgggaaGreatDoorPAllx0
import Derived.Test.YtgpekljckdgggaaGreatDoorPAllx1
import Derived.Test.YtgpekljckdgggaaGreatDoorPAllx2
namespace Go.Proofs.YtgpekljckdgggaaGreatDoor.PAll
open Go.RowKit Go.Proofs.YtgpekljckdgggaaGreatDoorW.PrintWords Go.Proofs.YtgpekljckdgggaaGreatDoorW.PrintLast Go.Proofs.YtgpekljckdgggaaGreatDoorW.PrintMore
attribute [local go_sem] max2_int min2_int max_two min_two max_three min_three max_four min_four   -- for this text's walks alone
set_option linter.unusedVariables false
set_option linter.unusedSimpArgs false

/-! ### sign_Unquote: function 91 -/
mutual
def sign_Unquote.j0 : Nat → ByteArray → Bool → Option (ByteArray × Bool)
 | 0, _, _ => none
 | k + 1, x0, x16 => if x16 = true then (some ((⟨#[]⟩ : ByteArray), false)) else (sign_Unquote.l0 k x0 ([] : List Int) 1)
def sign_Unquote.l0 : Nat → ByteArray → List Int → Int → Option (ByteArray × Bool)
 | 0, _, _, _ => none
 | k + 1, x0, x4, x5 => if x5 < (x0.size : Int) then (if 0 ≤ x5 then (if (bt x0 x5) = 34 then (if x5 < (wrap64 ((x0.size : Int) - 1)) then (some ((⟨#[]⟩ : ByteArray), false)) else (some (strOfNums x4, true))) else (if (bt x0 x5) = 92 then (if (wrap64 (x5 + 1)) = (x0.size : Int) then (some ((⟨#[]⟩ : ByteArray), false)) else (if 0 ≤ (wrap64 (x5 + 1)) then (if (wrap64 (x5 + 1)) < (x0.size : Int) then (if x4.length < 140737488355328 then (sign_Unquote.l0 k x0 (x4 ++ [bt x0 (wrap64 (x5 + 1))]) (wrap64 ((wrap64 (x5 + 1)) + 1))) else (none)) else (none)) else (none))) else (if x4.length < 140737488355328 then (sign_Unquote.l0 k x0 (x4 ++ [bt x0 x5]) (wrap64 (x5 + 1))) else (none)))) else (none)) else (some ((⟨#[]⟩ : ByteArray), false))
end
def sign_Unquote.f (k : Nat) (a0 : ByteArray) : Option (ByteArray × Bool) := (sign_Token.f k a0).bind fun t130 => (if t130 = true then (some (a0, true)) else (if (a0.size : Int) < 2 then (sign_Unquote.j0 k a0 true) else (if 0 < (a0.size : Int) then (sign_Unquote.j0 k a0 ((bt a0 0) != 34)) else (none))))
theorem sign_Unquote.mono_l : ∀ k, (∀ y0 y1, LeO (sign_Unquote.j0 k y0 y1) (sign_Unquote.j0 (k + 1) y0 y1)) ∧ (∀ y0 y1 y2, LeO (sign_Unquote.l0 k y0 y1 y2) (sign_Unquote.l0 (k + 1) y0 y1 y2))
 | 0 => ⟨fun _ _ r h => by simp [sign_Unquote.j0] at h, fun _ _ _ r h => by simp [sign_Unquote.l0] at h⟩
 | k + 1 => by
  obtain ⟨ih0, ih1⟩ := sign_Unquote.mono_l k
  refine ⟨?_, ?_⟩
  ·
   intro y0 y1
   unfold sign_Unquote.j0
   repeat' (with_reducible first | exact ih0 _ _ | exact ih1 _ _ _ | exact sign_Token.mono _ _ | exact lR_ | refine LeO.ite ?_ ?_ | refine LeO.bind ?_ (fun _ => ?_))
  ·
   intro y0 y1 y2
   unfold sign_Unquote.l0
   repeat' (with_reducible first | exact ih0 _ _ | exact ih1 _ _ _ | exact sign_Token.mono _ _ | exact lR_ | refine LeO.ite ?_ ?_ | refine LeO.bind ?_ (fun _ => ?_))
theorem sign_Unquote.mono : ∀ a0 k, LeO (sign_Unquote.f k a0) (sign_Unquote.f (k + 1) a0) := by
 intro a0 k
 obtain ⟨ih0, ih1⟩ := sign_Unquote.mono_l k
 unfold sign_Unquote.f
 repeat' (with_reducible first | exact ih0 _ _ | exact ih1 _ _ _ | exact sign_Token.mono _ _ | exact lR_ | refine LeO.ite ?_ ?_ | refine LeO.bind ?_ (fun _ => ?_))
set_option maxHeartbeats 8000000 in
set_option maxRecDepth 100000 in
theorem sign_Unquote.calls (k : Nat) (a0 : ByteArray) (r1 : ByteArray) (r2 : Bool) (w : World) (h : sign_Unquote.f k a0 = some (r1, r2)) :
  Calls Tryz.prog 91 #[.string a0] w fun e w' => e = .returned (.tuple #[.string r1, .bool r2]) ∧ Below w.heap.size w w' := by
 have HB := Aside0.mk (Below.refl w.heap.size w)
 have H : ((sign_Token.f k a0).bind fun t130 => (if t130 = true then (some (a0, true)) else (if (a0.size : Int) < 2 then (sign_Unquote.j0 k a0 true) else (if 0 < (a0.size : Int) then (sign_Unquote.j0 k a0 ((bt a0 0) != 34)) else (none))))) = some (r1, r2) := h
 clear h
 obtain ⟨t130, A2, H⟩ := bS_ H
 try dsimp only at H
 by_cases c3 : t130 = true
 ·
  subst c3
  rw [if_pos rfl] at H
  simp only [Option.some.injEq, Prod.mk.injEq] at H
  obtain ⟨rfl, rfl⟩ := H
  go_enter Tryz.func91, Tryz.ntmps91
  go_wp2_with (first | ((with_reducible refine gate_callee (f := 118) rfl ?_); refine goesL_ (some 7) rfl rfl Tryz.func118 (by kernel_rfl) rfl #[.string a0] rfl T1_ ?_; (with_reducible refine (sign_Token.calls k a0 true _ A2.out).mono ?_); rintro e w' ⟨rfl, ⟨nd, rfl⟩⟩; refine ⟨_, rfl, ?_⟩))
  go_ret2
  exact ⟨E1_, W1_⟩
 ·
  replace c3 := Bool.eq_false_iff.mpr c3
  subst c3
  rw [if_neg (show ¬ (false = true) by decide)] at H
  have HC4 := Aside0.mk H
  clear H
  go_enter Tryz.func91, Tryz.ntmps91
  go_upto_region 3 with (first | ((with_reducible refine gate_callee (f := 118) rfl ?_); refine goesL_ (some 7) rfl rfl Tryz.func118 (by kernel_rfl) rfl #[.string a0] rfl T1_ ?_; (with_reducible refine (sign_Token.calls k a0 false _ A2.out).mono ?_); rintro e w' ⟨rfl, ⟨nd, rfl⟩⟩; refine ⟨_, rfl, ?_⟩))
  (try simp only [Act.put, sA_, sZ_, sS_])
  go_cut [16] (fun v16 wc => ∃ (kq : Nat) (x16_3 : Bool), v16 = .bool x16_3 ∧ Aside0 (sign_Unquote.j0 kq a0 x16_3 = some (r1, r2)) ∧ Aside0 (kq ≤ k) ∧ Aside0 (Below w.heap.size w wc))
  case first =>
   have H := HC4.out
   clear HC4
   by_cases c5 : (a0.size : Int) < 2
   ·
    rw [if_pos c5] at H
    have c5b0 : decide ((a0.size : Int) < 2) = true := decide_eq_true c5
    have c5b1 : decide (a0.size < 2) = true := decide_eq_true (by omega)
    clear c5
    (first | rw [c5b0] | (simp only [i64_w, i32_w]; rw [c5b0]) | skip)
    have H' := Aside0.mk H
    clear H
    go_wp2
    go_meet
    case rel => exact ⟨_, (true), E3_, H', ⟨by first | omega | exact Nat.le_refl _⟩, ⟨W1_⟩⟩
   ·
    rw [if_neg c5] at H
    have c5b0 : decide ((a0.size : Int) < 2) = false := decide_eq_false c5
    have c5b1 : decide (a0.size < 2) = false := decide_eq_false (by omega)
    clear c5
    (first | rw [c5b0] | (simp only [i64_w, i32_w]; rw [c5b0]) | skip)
    by_cases c6 : 0 < (a0.size : Int)
    ·
     rw [if_pos c6] at H
     have c6b0 : decide (0 < (a0.size : Int)) = true := decide_eq_true c6
     have c6b1 : decide (0 < a0.size) = true := decide_eq_true (by omega)
     clear c6
     have H' := Aside0.mk H
     clear H
     have p7 : 0 ≤ (0 : Int) := (by omega)
     have q7 : 0 < a0.size := (by have : (0 : Int) < (a0.size : Int) := oA_; omega)
     have hx7 : ∀ h : 0 < a0.size, ((a0[0]'h).toNat : Int) = bt a0 0 := bt_at a0 0
     clear p7
     have qi7 : (0 < (a0.size : Int)) = True := eq_true (oA_)
     replace q7 := eq_true q7
     go_wp2
     go_meet
     case rel => exact ⟨_, (((bt a0 0) != 34)), E3_, H', ⟨by first | omega | exact Nat.le_refl _⟩, ⟨W1_⟩⟩
    ·
     rw [if_neg c6] at H
     exact absurd H (by simp)
  case rest =>
   clear HC4
   (try clear c3); (try clear c5); (try clear c5b0); (try clear c5b1); (try clear c6); (try clear c6b0); (try clear c6b1); (try clear p7); (try clear q7); (try clear hx7); (try clear qi7); (try clear p7); (try clear q7)
   obtain ⟨kq, x16_3, rfl, HA, HJ3, HB⟩ := hcut
   cases kq with
   | zero => exact absurd HA.out (by simp [sign_Unquote.j0])
   | succ kj3 =>
    have H := HA.out
    clear HA
    simp only [sign_Unquote.j0] at H
    by_cases c8 : x16_3 = true
    ·
     subst c8
     rw [if_pos rfl] at H
     simp only [Option.some.injEq, Prod.mk.injEq] at H
     obtain ⟨rfl, rfl⟩ := H
     go_wp2
     go_ret2
     exact ⟨E1_, W1_⟩
    ·
     replace c8 := Bool.eq_false_iff.mpr c8
     subst c8
     rw [if_neg (show ¬ (false = true) by decide)] at H
     have H' := Aside0.mk H
     clear H
     go_wp2
     go_loopg [4, 5] kj3 (fun kq v4 v5 w' => ∃ (x4_2 : List Int) (x5_2 : Int), v5 = .int .i64 x5_2 ∧ Aside0 (sign_Unquote.l0 kq a0 x4_2 x5_2 = some (r1, r2)) ∧ Aside0 (kq ≤ kj3) ∧ Aside0 (Kd.R (Kd.int .u8) 5 w' w.heap.size (fun _ => True) v4 x4_2) ∧ Aside0 (Below w.heap.size w w'))
     case atStart => exact ⟨(([] : List Int)), (1), E3_, H', ⟨Nat.le_refl _⟩, ⟨by first | exact Kd.R_nil _ _ _ _ _ | exact Kd.N_nil _ _ _ _ _ | exact Kd.V_nil _ _ _ _ _ | exact Kd.Q_nil _ _ _ _ _ | exact Kd.S_nil _ _ _ _ _⟩, ⟨W1_⟩⟩
     case round =>
      clear H'
      (try clear c3); (try clear c5); (try clear c5b0); (try clear c5b1); (try clear c6); (try clear c6b0); (try clear c6b1); (try clear p7); (try clear q7); (try clear hx7); (try clear qi7); (try clear c8); (try clear p7); (try clear q7)
      obtain ⟨x4_2, x5_2, rfl, HA, HK2, HO_4, HB⟩ := hrel
      cases gk with
      | zero => exact absurd HA.out (by simp [sign_Unquote.l0])
      | succ k2 =>
       have H := HA.out
       clear HA
       simp only [sign_Unquote.l0] at H
       by_cases c9 : x5_2 < (a0.size : Int)
       ·
        rw [if_pos c9] at H
        have c9b0 : decide (x5_2 < (a0.size : Int)) = true := decide_eq_true c9
        clear c9
        by_cases c10 : 0 ≤ x5_2
        ·
         rw [if_pos c10] at H
         have c10b0 : decide (0 ≤ x5_2) = true := decide_eq_true c10
         clear c10
         by_cases c12 : (bt a0 x5_2) = 34
         ·
          rw [if_pos c12] at H
          have c12b0 : ((bt a0 x5_2) == 34) = true := beq_iff_eq.mpr c12
          have c12b1 : ((bt a0 x5_2) != 34) = false := bne_eq_false_iff_eq.mpr c12
          clear c12
          by_cases c13 : x5_2 < (wrap64 ((a0.size : Int) - 1))
          ·
           rw [if_pos c13] at H
           have c13b0 : decide (x5_2 < (wrap64 ((a0.size : Int) - 1))) = true := decide_eq_true c13
           clear c13
           simp only [Option.some.injEq, Prod.mk.injEq] at H
           obtain ⟨rfl, rfl⟩ := H
           have p11 : 0 ≤ (x5_2 : Int) := oA_
           have q11 : x5_2 < (a0.size : Int) := oA_
           have hx11 := bt_at a0 x5_2
           replace p11 := eq_true p11
           replace q11 := eq_true q11
           go_wp2
           go_ret2
           exact ⟨E1_, W1_⟩
          ·
           rw [if_neg c13] at H
           have c13b0 : decide (x5_2 < (wrap64 ((a0.size : Int) - 1))) = false := decide_eq_false c13
           clear c13
           simp only [Option.some.injEq, Prod.mk.injEq] at H
           obtain ⟨rfl, rfl⟩ := H
           have p11 : 0 ≤ (x5_2 : Int) := oA_
           have q11 : x5_2 < (a0.size : Int) := oA_
           have hx11 := bt_at a0 x5_2
           replace p11 := eq_true p11
           replace q11 := eq_true q11
           have hcv14 := own_string (P := Tryz.prog) Tryz.underlying80 Tryz.underlying5 Tryz.underlying9 (Kd.own_of_R HO_4.out)
           go_wp2
           go_ret2
           exact ⟨E1_, W1_⟩
         ·
          rw [if_neg c12] at H
          have c12b0 : ((bt a0 x5_2) == 34) = false := beq_eq_false_iff_ne.mpr c12
          have c12b1 : ((bt a0 x5_2) != 34) = true := bne_iff_ne.mpr c12
          by_cases c15 : (bt a0 x5_2) = 92
          ·
           rw [if_pos c15] at H
           have c15b0 : ((bt a0 x5_2) == 92) = true := beq_iff_eq.mpr c15
           have c15b1 : ((bt a0 x5_2) != 92) = false := bne_eq_false_iff_eq.mpr c15
           clear c15
           by_cases c16 : (wrap64 (x5_2 + 1)) = (a0.size : Int)
           ·
            rw [if_pos c16] at H
            have c16b0 : ((wrap64 (x5_2 + 1)) == (a0.size : Int)) = true := beq_iff_eq.mpr c16
            have c16b1 : ((wrap64 (x5_2 + 1)) != (a0.size : Int)) = false := bne_eq_false_iff_eq.mpr c16
            clear c16
            simp only [Option.some.injEq, Prod.mk.injEq] at H
            obtain ⟨rfl, rfl⟩ := H
            have p11 : 0 ≤ (x5_2 : Int) := oA_
            have q11 : x5_2 < (a0.size : Int) := oA_
            have hx11 := bt_at a0 x5_2
            replace p11 := eq_true p11
            replace q11 := eq_true q11
            go_wp2
            go_ret2
            exact ⟨E1_, W1_⟩
           ·
            rw [if_neg c16] at H
            have c16b0 : ((wrap64 (x5_2 + 1)) == (a0.size : Int)) = false := beq_eq_false_iff_ne.mpr c16
            have c16b1 : ((wrap64 (x5_2 + 1)) != (a0.size : Int)) = true := bne_iff_ne.mpr c16
            obtain ⟨ji17, hji17⟩ : ∃ j_ : Int, (wrap64 (x5_2 + 1)) = j_ := ⟨_, rfl⟩
            replace H : (if 0 ≤ (ji17) then (if (ji17) < (a0.size : Int) then (if x4_2.length < 140737488355328 then (sign_Unquote.l0 k2 a0 (x4_2 ++ [bt a0 (ji17)]) (wrap64 ((ji17) + 1))) else (none)) else (none)) else (none)) = some (r1, r2) := by first | (rw [hji17] at H; exact H) | (simp only [hji17] at H ⊢; exact H)
            (try rw [hji17] at c16b0)
            (try rw [hji17] at c16b1)
            have hji17w : (IntKind.i64.wrap (x5_2 + 1)) = ji17 := (i64_w _).trans hji17
            by_cases c18 : 0 ≤ (ji17)
            ·
             rw [if_pos c18] at H
             have c18b0 : decide (0 ≤ (ji17)) = true := decide_eq_true c18
             clear c18
             by_cases c19 : (ji17) < (a0.size : Int)
             ·
              rw [if_pos c19] at H
              have c19b0 : decide ((ji17) < (a0.size : Int)) = true := decide_eq_true c19
              clear c19
              by_cases c21 : x4_2.length < 140737488355328
              ·
               rw [if_pos c21] at H
               have LMc21 := Aside0.mk c21
               clear c21
               obtain ⟨y131, hy131⟩ : ∃ y_ : List Int, y_ = (x4_2 ++ [bt a0 (ji17)]) := ⟨_, rfl⟩
               replace H : (sign_Unquote.l0 k2 a0 y131 (wrap64 ((ji17) + 1))) = some (r1, r2) := by first | (rw [hy131]; with_reducible exact H) | (have H2_ := (Option.bind_some _ _).symm.trans H; rw [hy131]; with_reducible exact H2_) | (have H2_ := (Option.bind_some _ _).symm.trans H; with_reducible exact H2_) | with_reducible exact H | (rw [hy131]; exact H) | exact H
               have Ny131 := Aside0.mk hy131
               clear hy131
               have H' := Aside0.mk H
               clear H
               have p11 : 0 ≤ (x5_2 : Int) := oA_
               have q11 : x5_2 < (a0.size : Int) := oA_
               have hx11 := bt_at a0 x5_2
               replace p11 := eq_true p11
               replace q11 := eq_true q11
               have p20 : 0 ≤ ((ji17) : Int) := oA_
               have q20 : (ji17) < (a0.size : Int) := oA_
               have hx20 := bt_at a0 (ji17)
               replace p20 := eq_true p20
               replace q20 := eq_true q20
               go_wp2_with (first | ((with_reducible refine gate_builtin (b := .append) (xs := #[.tmp 43, .tmp 47]) rfl ?_); at_builtin; refine Kd.R_append (Kd.int .u8) (w0 := w) w.heap.size rfl (.tmp 43) (.tmp 47) 80 5 (.int .u8 0) 1 rfl Tryz.underlying80 info5 rfl (by decide) (by omega) u4 x4_2 (bt a0 (ji17)) [.int .u8 (bt a0 (ji17))] (fun _ => True) (fun _ => False) rfl rfl ?aP (fun _ hk => hk.elim) ?aF ?aO ?aB ?aS ?aL ?_; (case aP => exact rfl); (case aB => exact W1_); (case aF => exact (fun _ _ => trivial)); (case aO => exact (R1_ HO_4.out)); (case aS => exact (below_size W1_)); (case aL => have := LMc21.out; omega); intro v132 w22 ho hb hg hat; rw [← Ny131.out] at ho; have n0_ := Aside0.mk (hb); have n1_ := Aside0.mk (ho); clear HB; clear HO_4; have HB := n0_; have HO133 := n1_; clear n0_ n1_; clear ho hb hg hat))
               go_roundg k2
               case measure => have := HJ3.out; have := HK2.out; omega
               case rel => exact ⟨(y131), (wrap64 ((ji17) + 1)), (by first | rfl | (simp; done) | (simp only [← hji17] <;> (first | rfl | simp)) | (simp [*]; done)), H', ⟨by have := HJ3.out; have := HK2.out; omega⟩, ⟨R1_ HO133.out⟩, ⟨W1_⟩⟩
              ·
               rw [if_neg c21] at H
               exact absurd H (by simp)
             ·
              rw [if_neg c19] at H
              exact absurd H (by simp)
            ·
             rw [if_neg c18] at H
             exact absurd H (by simp)
          ·
           rw [if_neg c15] at H
           have c15b0 : ((bt a0 x5_2) == 92) = false := beq_eq_false_iff_ne.mpr c15
           have c15b1 : ((bt a0 x5_2) != 92) = true := bne_iff_ne.mpr c15
           by_cases c24 : x4_2.length < 140737488355328
           ·
            rw [if_pos c24] at H
            have LMc24 := Aside0.mk c24
            clear c24
            obtain ⟨y134, hy134⟩ : ∃ y_ : List Int, y_ = (x4_2 ++ [bt a0 x5_2]) := ⟨_, rfl⟩
            replace H : (sign_Unquote.l0 k2 a0 y134 (wrap64 (x5_2 + 1))) = some (r1, r2) := by first | (rw [hy134]; with_reducible exact H) | (have H2_ := (Option.bind_some _ _).symm.trans H; rw [hy134]; with_reducible exact H2_) | (have H2_ := (Option.bind_some _ _).symm.trans H; with_reducible exact H2_) | with_reducible exact H | (rw [hy134]; exact H) | exact H
            have Ny134 := Aside0.mk hy134
            clear hy134
            have H' := Aside0.mk H
            clear H
            have p11 : 0 ≤ (x5_2 : Int) := oA_
            have q11 : x5_2 < (a0.size : Int) := oA_
            have hx11 := bt_at a0 x5_2
            replace p11 := eq_true p11
            replace q11 := eq_true q11
            have p23 : 0 ≤ (x5_2 : Int) := oA_
            have q23 : x5_2 < (a0.size : Int) := oA_
            have hx23 := bt_at a0 x5_2
            replace p23 := eq_true p23
            replace q23 := eq_true q23
            go_wp2_with (first | ((with_reducible refine gate_builtin (b := .append) (xs := #[.tmp 43, .tmp 47]) rfl ?_); at_builtin; refine Kd.R_append (Kd.int .u8) (w0 := w) w.heap.size rfl (.tmp 43) (.tmp 47) 80 5 (.int .u8 0) 1 rfl Tryz.underlying80 info5 rfl (by decide) (by omega) u4 x4_2 (bt a0 x5_2) [.int .u8 (bt a0 x5_2)] (fun _ => True) (fun _ => False) rfl rfl ?aP (fun _ hk => hk.elim) ?aF ?aO ?aB ?aS ?aL ?_; (case aP => exact rfl); (case aB => exact W1_); (case aF => exact (fun _ _ => trivial)); (case aO => exact (R1_ HO_4.out)); (case aS => exact (below_size W1_)); (case aL => have := LMc24.out; omega); intro v135 w25 ho hb hg hat; rw [← Ny134.out] at ho; have n0_ := Aside0.mk (hb); have n1_ := Aside0.mk (ho); clear HB; clear HO_4; have HB := n0_; have HO136 := n1_; clear n0_ n1_; clear ho hb hg hat))
            go_roundg k2
            case measure => have := HJ3.out; have := HK2.out; omega
            case rel => exact ⟨(y134), (wrap64 (x5_2 + 1)), E3_, H', ⟨by have := HJ3.out; have := HK2.out; omega⟩, ⟨R1_ HO136.out⟩, ⟨W1_⟩⟩
           ·
            rw [if_neg c24] at H
            exact absurd H (by simp)
        ·
         rw [if_neg c10] at H
         exact absurd H (by simp)
       ·
        rw [if_neg c9] at H
        have c9b0 : decide (x5_2 < (a0.size : Int)) = false := decide_eq_false c9
        clear c9
        simp only [Option.some.injEq, Prod.mk.injEq] at H
        obtain ⟨rfl, rfl⟩ := H
        go_wp2
        go_ret2
        exact ⟨E1_, W1_⟩

/-! ### control_seconds: function 69 -/
def control_seconds.f (k : Nat) (a0 : ByteArray) (a1 : Int) : Option (Int) := (sign_Unquote.f k a0).bind fun bt137 => (if bt137.2 = true then ((sign_Number.f k bt137.1).bind fun bt139 => (if bt139.2 = true then (some bt139.1) else (some a1))) else (some a1))
theorem control_seconds.mono : ∀ a0 a1 k, LeO (control_seconds.f k a0 a1) (control_seconds.f (k + 1) a0 a1) := by
 intro a0 a1 k
 unfold control_seconds.f
 repeat' (with_reducible first | exact sign_Number.mono _ _ | exact sign_Unquote.mono _ _ | exact lR_ | refine LeO.ite ?_ ?_ | refine LeO.bind ?_ (fun _ => ?_))
set_option maxHeartbeats 8000000 in
set_option maxRecDepth 100000 in
theorem control_seconds.calls (k : Nat) (a0 : ByteArray) (a1 : Int) (r : Int) (w : World) (h : control_seconds.f k a0 a1 = some r) :
  Calls Tryz.prog 69 #[.string a0, .int .i64 a1] w fun e w' => e = .returned (.int .i64 r) ∧ Below w.heap.size w w' := by
 have HB := Aside0.mk (Below.refl w.heap.size w)
 have H : ((sign_Unquote.f k a0).bind fun bt137 => (if bt137.2 = true then ((sign_Number.f k bt137.1).bind fun bt139 => (if bt139.2 = true then (some bt139.1) else (some a1))) else (some a1))) = some r := h
 clear h
 obtain ⟨⟨t137, t138⟩, A3, H⟩ := bS_ H
 try dsimp only at H
 by_cases c4 : t138 = true
 ·
  subst c4
  rw [if_pos rfl] at H
  obtain ⟨⟨t139, t140⟩, A5, H⟩ := bS_ H
  try dsimp only at H
  by_cases c6 : t140 = true
  ·
   subst c6
   rw [if_pos rfl] at H
   obtain rfl := Option.some.inj H
   go_enter Tryz.func69, Tryz.ntmps69
   go_wp2_with (first | ((with_reducible refine gate_callee (f := 91) rfl ?_); refine goesL_ (some 11) rfl rfl Tryz.func91 (by kernel_rfl) rfl #[.string a0] rfl T1_ ?_; (with_reducible refine (sign_Unquote.calls k a0 t137 true _ A3.out).mono ?_); rintro e w7 ⟨rfl, hb⟩; refine ⟨_, rfl, ?_⟩; replace HB := y1_ hb; (try clear hb)) | ((with_reducible refine gate_callee (f := 37) rfl ?_); refine goesL_ (some 17) rfl rfl Tryz.func37 (by kernel_rfl) rfl #[.string t137] rfl T1_ ?_; (with_reducible refine (sign_Number.calls k t137 t139 true _ A5.out).mono ?_); rintro e w8 ⟨rfl, hb⟩; refine ⟨_, rfl, ?_⟩; replace HB := y1_ hb; (try clear hb)))
   go_ret
   exact ⟨E1_, W1_⟩
  ·
   replace c6 := Bool.eq_false_iff.mpr c6
   subst c6
   rw [if_neg (show ¬ (false = true) by decide)] at H
   obtain rfl := Option.some.inj H
   go_enter Tryz.func69, Tryz.ntmps69
   go_wp2_with (first | ((with_reducible refine gate_callee (f := 91) rfl ?_); refine goesL_ (some 11) rfl rfl Tryz.func91 (by kernel_rfl) rfl #[.string a0] rfl T1_ ?_; (with_reducible refine (sign_Unquote.calls k a0 t137 true _ A3.out).mono ?_); rintro e w9 ⟨rfl, hb⟩; refine ⟨_, rfl, ?_⟩; replace HB := y1_ hb; (try clear hb)) | ((with_reducible refine gate_callee (f := 37) rfl ?_); refine goesL_ (some 17) rfl rfl Tryz.func37 (by kernel_rfl) rfl #[.string t137] rfl T1_ ?_; (with_reducible refine (sign_Number.calls k t137 t139 false _ A5.out).mono ?_); rintro e w10 ⟨rfl, hb⟩; refine ⟨_, rfl, ?_⟩; replace HB := y1_ hb; (try clear hb)))
   go_ret
   exact ⟨E1_, W1_⟩
 ·
  replace c4 := Bool.eq_false_iff.mpr c4
  subst c4
  rw [if_neg (show ¬ (false = true) by decide)] at H
  obtain rfl := Option.some.inj H
  go_enter Tryz.func69, Tryz.ntmps69
  go_wp2_with (first | ((with_reducible refine gate_callee (f := 91) rfl ?_); refine goesL_ (some 11) rfl rfl Tryz.func91 (by kernel_rfl) rfl #[.string a0] rfl T1_ ?_; (with_reducible refine (sign_Unquote.calls k a0 t137 false _ A3.out).mono ?_); rintro e w11 ⟨rfl, hb⟩; refine ⟨_, rfl, ?_⟩; replace HB := y1_ hb; (try clear hb)))
  go_ret
  exact ⟨E1_, W1_⟩

/-! ### control_Control_directive: function 48, by hand -/
-- over 68 69
def dirV (k : Nat) (c : Ctl) (nm arg : ByteArray) (has : Bool) : Option Ctl :=
 if nm.toList = ([110, 111, 45, 115, 116, 111, 114, 101] : List UInt8) then (some { c with s0 := true }) else
 if nm.toList = ([110, 111, 45, 99, 97, 99, 104, 101] : List UInt8) then (some { c with s1 := true }) else
 if nm.toList = ([112, 114, 105, 118, 97, 116, 101] : List UInt8) then (some { c with s2 := true }) else
 if nm.toList = ([112, 117, 98, 108, 105, 99] : List UInt8) then (some { c with s3 := true }) else
 if nm.toList = ([109, 117, 115, 116, 45, 114, 101, 118, 97, 108, 105, 100, 97, 116, 101] : List UInt8) then (some { c with s4 := true }) else
 if nm.toList = ([112, 114, 111, 120, 121, 45, 114, 101, 118, 97, 108, 105, 100, 97, 116, 101] : List UInt8) then (some { c with s4 := true }) else
 if nm.toList = ([111, 110, 108, 121, 45, 105, 102, 45, 99, 97, 99, 104, 101, 100] : List UInt8) then (some { c with s5 := true }) else
 if nm.toList = ([109, 97, 120, 45, 97, 103, 101] : List UInt8) then ((control_seconds.f k arg 0).bind fun n => some { c with s6 := leastV c.s6 n }) else
 if nm.toList = ([115, 45, 109, 97, 120, 97, 103, 101] : List UInt8) then ((control_seconds.f k arg 0).bind fun n => some { c with s7 := leastV c.s7 n }) else
 if nm.toList = ([109, 105, 110, 45, 102, 114, 101, 115, 104] : List UInt8) then ((control_seconds.f k arg 2147483648).bind fun n => some { c with s8 := mx c.s8 n }) else
 if nm.toList = ([109, 97, 120, 45, 115, 116, 97, 108, 101] : List UInt8) then (if has = true then (control_seconds.f k arg 0).bind fun n => some { c with s9 := leastV c.s9 n } else some { c with s9 := leastV c.s9 2147483648 }) else
 some c
theorem dirV.mono (k : Nat) (c : Ctl) (nm arg : ByteArray) (has : Bool) : LeO (dirV k c nm arg has) (dirV (k + 1) c nm arg has) := by
 unfold dirV
 repeat' first
 | (with_reducible exact LeO.refl _)
 | exact LeO.bind (control_seconds.mono _ _ _) (fun _ => LeO.refl _)
 | refine LeO.ite ?_ ?_
def Blk (W : World) (g : Nat) (c : Ctl) : Prop := W.heap[g]? = some (.cells (ctCells c) 57 (0, 0))
set_option maxHeartbeats 8000000 in
set_option maxRecDepth 100000 in
theorem directive_calls (k g : Nat) (c : Ctl) (nm arg : ByteArray) (has : Bool) (r : Ctl) (W : World) (hb : Blk W g c) (h : dirV k c nm arg has = some r) :
  Calls Tryz.prog 48 #[.pointer (some ⟨g, 0, none⟩), .string nm, .string arg, .bool has] W fun e w' => e = .returned (.tuple #[]) ∧ Blk w' g r ∧ KeepBut W w' g none ∧ ∀ w0 : World, w0.heap.size ≤ g → Below w0.heap.size w0 W → Below w0.heap.size w0 w' := by
 unfold dirV at h
 have hlt : g < W.heap.size := (Array.getElem?_eq_some_iff.1 hb).1
 by_cases c0 : nm.toList = ([110, 111, 45, 115, 116, 111, 114, 101] : List UInt8)
 ·
  rw [if_pos c0] at h
  have d0 : (nm.toList == ([110, 111, 45, 115, 116, 111, 114, 101] : List UInt8)) = true := beq_iff_eq.mpr c0
  obtain rfl := Option.some.inj h
  clear h
  have hc0 : W.cell? ⟨g, 0, none⟩ = some (.bool c.s0) := (blk_cell hb 0).trans rfl
  have hf0 := blk_frozen hb 0
  go_enter Tryz.func48, Tryz.ntmps48
  go_wp2
  first | go_end0 | ((try simp only [Exit.inBlock, Exit.then]); refine bodyPost_ret (results_none rfl _ _ _) rfl ?_)
  exact ⟨rfl, blk_put hb 0 _ rfl, (KeepBut.refl _ _ _).set_ 0 _, fun w0 hB h => below_set h hB⟩
 ·
  rw [if_neg c0] at h
  have d0 : (nm.toList == ([110, 111, 45, 115, 116, 111, 114, 101] : List UInt8)) = false := beq_eq_false_iff_ne.mpr c0
  by_cases c1 : nm.toList = ([110, 111, 45, 99, 97, 99, 104, 101] : List UInt8)
  ·
   rw [if_pos c1] at h
   have d1 : (nm.toList == ([110, 111, 45, 99, 97, 99, 104, 101] : List UInt8)) = true := beq_iff_eq.mpr c1
   obtain rfl := Option.some.inj h
   clear h
   have hc1 : W.cell? ⟨g, 1, none⟩ = some (.bool c.s1) := (blk_cell hb 1).trans rfl
   have hf1 := blk_frozen hb 1
   go_enter Tryz.func48, Tryz.ntmps48
   go_wp2
   first | go_end0 | ((try simp only [Exit.inBlock, Exit.then]); refine bodyPost_ret (results_none rfl _ _ _) rfl ?_)
   exact ⟨rfl, blk_put hb 1 _ rfl, (KeepBut.refl _ _ _).set_ 1 _, fun w0 hB h => below_set h hB⟩
  ·
   rw [if_neg c1] at h
   have d1 : (nm.toList == ([110, 111, 45, 99, 97, 99, 104, 101] : List UInt8)) = false := beq_eq_false_iff_ne.mpr c1
   by_cases c2 : nm.toList = ([112, 114, 105, 118, 97, 116, 101] : List UInt8)
   ·
    rw [if_pos c2] at h
    have d2 : (nm.toList == ([112, 114, 105, 118, 97, 116, 101] : List UInt8)) = true := beq_iff_eq.mpr c2
    obtain rfl := Option.some.inj h
    clear h
    have hc2 : W.cell? ⟨g, 2, none⟩ = some (.bool c.s2) := (blk_cell hb 2).trans rfl
    have hf2 := blk_frozen hb 2
    go_enter Tryz.func48, Tryz.ntmps48
    go_wp2
    first | go_end0 | ((try simp only [Exit.inBlock, Exit.then]); refine bodyPost_ret (results_none rfl _ _ _) rfl ?_)
    exact ⟨rfl, blk_put hb 2 _ rfl, (KeepBut.refl _ _ _).set_ 2 _, fun w0 hB h => below_set h hB⟩
   ·
    rw [if_neg c2] at h
    have d2 : (nm.toList == ([112, 114, 105, 118, 97, 116, 101] : List UInt8)) = false := beq_eq_false_iff_ne.mpr c2
    by_cases c3 : nm.toList = ([112, 117, 98, 108, 105, 99] : List UInt8)
    ·
     rw [if_pos c3] at h
     have d3 : (nm.toList == ([112, 117, 98, 108, 105, 99] : List UInt8)) = true := beq_iff_eq.mpr c3
     obtain rfl := Option.some.inj h
     clear h
     have hc3 : W.cell? ⟨g, 3, none⟩ = some (.bool c.s3) := (blk_cell hb 3).trans rfl
     have hf3 := blk_frozen hb 3
     go_enter Tryz.func48, Tryz.ntmps48
     go_wp2
     first | go_end0 | ((try simp only [Exit.inBlock, Exit.then]); refine bodyPost_ret (results_none rfl _ _ _) rfl ?_)
     exact ⟨rfl, blk_put hb 3 _ rfl, (KeepBut.refl _ _ _).set_ 3 _, fun w0 hB h => below_set h hB⟩
    ·
     rw [if_neg c3] at h
     have d3 : (nm.toList == ([112, 117, 98, 108, 105, 99] : List UInt8)) = false := beq_eq_false_iff_ne.mpr c3
     by_cases c4 : nm.toList = ([109, 117, 115, 116, 45, 114, 101, 118, 97, 108, 105, 100, 97, 116, 101] : List UInt8)
     ·
      rw [if_pos c4] at h
      have d4 : (nm.toList == ([109, 117, 115, 116, 45, 114, 101, 118, 97, 108, 105, 100, 97, 116, 101] : List UInt8)) = true := beq_iff_eq.mpr c4
      obtain rfl := Option.some.inj h
      clear h
      have hc4 : W.cell? ⟨g, 4, none⟩ = some (.bool c.s4) := (blk_cell hb 4).trans rfl
      have hf4 := blk_frozen hb 4
      go_enter Tryz.func48, Tryz.ntmps48
      go_wp2
      first | go_end0 | ((try simp only [Exit.inBlock, Exit.then]); refine bodyPost_ret (results_none rfl _ _ _) rfl ?_)
      exact ⟨rfl, blk_put hb 4 _ rfl, (KeepBut.refl _ _ _).set_ 4 _, fun w0 hB h => below_set h hB⟩
     ·
      rw [if_neg c4] at h
      have d4 : (nm.toList == ([109, 117, 115, 116, 45, 114, 101, 118, 97, 108, 105, 100, 97, 116, 101] : List UInt8)) = false := beq_eq_false_iff_ne.mpr c4
      by_cases c5 : nm.toList = ([112, 114, 111, 120, 121, 45, 114, 101, 118, 97, 108, 105, 100, 97, 116, 101] : List UInt8)
      ·
       rw [if_pos c5] at h
       have d5 : (nm.toList == ([112, 114, 111, 120, 121, 45, 114, 101, 118, 97, 108, 105, 100, 97, 116, 101] : List UInt8)) = true := beq_iff_eq.mpr c5
       obtain rfl := Option.some.inj h
       clear h
       have hc4 : W.cell? ⟨g, 4, none⟩ = some (.bool c.s4) := (blk_cell hb 4).trans rfl
       have hf4 := blk_frozen hb 4
       go_enter Tryz.func48, Tryz.ntmps48
       go_wp2
       first | go_end0 | ((try simp only [Exit.inBlock, Exit.then]); refine bodyPost_ret (results_none rfl _ _ _) rfl ?_)
       exact ⟨rfl, blk_put hb 4 _ rfl, (KeepBut.refl _ _ _).set_ 4 _, fun w0 hB h => below_set h hB⟩
      ·
       rw [if_neg c5] at h
       have d5 : (nm.toList == ([112, 114, 111, 120, 121, 45, 114, 101, 118, 97, 108, 105, 100, 97, 116, 101] : List UInt8)) = false := beq_eq_false_iff_ne.mpr c5
       by_cases c6 : nm.toList = ([111, 110, 108, 121, 45, 105, 102, 45, 99, 97, 99, 104, 101, 100] : List UInt8)
       ·
        rw [if_pos c6] at h
        have d6 : (nm.toList == ([111, 110, 108, 121, 45, 105, 102, 45, 99, 97, 99, 104, 101, 100] : List UInt8)) = true := beq_iff_eq.mpr c6
        obtain rfl := Option.some.inj h
        clear h
        have hc5 : W.cell? ⟨g, 5, none⟩ = some (.bool c.s5) := (blk_cell hb 5).trans rfl
        have hf5 := blk_frozen hb 5
        go_enter Tryz.func48, Tryz.ntmps48
        go_wp2
        first | go_end0 | ((try simp only [Exit.inBlock, Exit.then]); refine bodyPost_ret (results_none rfl _ _ _) rfl ?_)
        exact ⟨rfl, blk_put hb 5 _ rfl, (KeepBut.refl _ _ _).set_ 5 _, fun w0 hB h => below_set h hB⟩
       ·
        rw [if_neg c6] at h
        have d6 : (nm.toList == ([111, 110, 108, 121, 45, 105, 102, 45, 99, 97, 99, 104, 101, 100] : List UInt8)) = false := beq_eq_false_iff_ne.mpr c6
        by_cases c7 : nm.toList = ([109, 97, 120, 45, 97, 103, 101] : List UInt8)
        ·
         rw [if_pos c7] at h
         have d7 : (nm.toList == ([109, 97, 120, 45, 97, 103, 101] : List UInt8)) = true := beq_iff_eq.mpr c7
         obtain ⟨n, hn, hz⟩ := Option.bind_eq_some_iff.mp h
         clear h
         obtain rfl := Option.some.inj hz
         have HN := Aside0.mk hn
         clear hn hz
         go_enter Tryz.func48, Tryz.ntmps48
         go_wp2_with fail
         refine start_ (n := 6) (S := (fun _ => True)) (ds := [5]) #[false, false, false, false, false, false] (by kernel_rfl) rfl rfl trivial (fun hHeld => ?_)
         refine pure_ (i := 0) (N := some 43) (v := ?_) (a' := ?_) #[true, false, false, false, false, false] rfl rfl (by kernel_rfl) (fun _ _ _ h => h) (Or.inl ⟨by rfl, ?_⟩) ?_ ?_
         rotate_left
         ·
          intro w'
          go_simp
          try (with_reducible rfl)
         rotate_left
         ·
          simp only [Act.put, sA_, sZ_, sS_, i64_w, i32_w]
          rfl
         refine pure_ (i := 1) (N := some 44) (v := ?_) (a' := ?_) #[true, true, false, false, false, false] rfl rfl (by kernel_rfl) (fun _ _ _ h => h) (Or.inl ⟨by rfl, ?_⟩) ?_ ?_
         rotate_left
         ·
          intro w'
          go_simp
          try (with_reducible rfl)
         rotate_left
         ·
          simp only [Act.put, sA_, sZ_, sS_, i64_w, i32_w]
          rfl
         refine pure_ (i := 2) (N := some 45) (v := ?_) (a' := ?_) #[true, true, true, false, false, false] rfl rfl (by kernel_rfl) (fun _ _ _ h => h) (Or.inl ⟨by rfl, ?_⟩) ?_ ?_
         rotate_left
         ·
          intro w'
          go_simp
          try (with_reducible rfl)
         rotate_left
         ·
          simp only [Act.put, sA_, sZ_, sS_, i64_w, i32_w]
          rfl
         refine pure_ (i := 3) (N := some 46) (v := ?_) (a' := ?_) #[true, true, true, true, false, false] rfl rfl (by kernel_rfl) (fun _ _ _ h => h) (Or.inl ⟨by rfl, ?_⟩) ?_ ?_
         rotate_left
         ·
          intro w'
          go_simp
          try (with_reducible rfl)
         rotate_left
         ·
          simp only [Act.put, sA_, sZ_, sS_, i64_w, i32_w]
          rfl
         refine one_ (i := 4) (N := some 47) #[true, true, true, true, true, false] rfl rfl (by kernel_rfl) (by decide) (fun K hK => ?_)
         refine goes_ Tryz.func69 (by kernel_rfl) rfl #[.string arg, .int .i64 0] (by rfl) rfl rfl (by (try simp only [mA_, mC_, mN_]); first | done | rfl) ?_
         refine (control_seconds.calls k arg 0 n _ HN.out).mono ?_
         rintro e w2 ⟨rfl, hb2⟩
         refine ⟨_, rfl, ?_⟩
         have hblk2 := blk_below (bD_ hb) hb2
         have hk2 : KeepBut W w2 g none := (keep_drew (KeepBut.refl _ _ _)).trans (KeepBut.of_below hb2 g none) (.inl rfl)
         have hbl2 : ∀ w0 : World, w0.heap.size ≤ g → Below w0.heap.size w0 W → Below w0.heap.size w0 w2 := fun w0 hB h => below_then (below_drew h) (Nat.le_of_lt (Nat.lt_of_le_of_lt hB hlt)) hb2
         refine hK.out _ _ trivial (fun hHeld => ?_)
         clear hK K
         refine norm_ (a' := ?_) ?_ ?_
         rotate_left
         ·
          show Act.put _ (some 47) _ = _
          simp only [Act.put, sA_, sZ_, sS_, i64_w, i32_w]
          rfl
         refine last_ (i := 5) (N := some 48) #[true, true, true, true, true, true] rfl rfl (by kernel_rfl) (by decide) (fun K hK => ?_)
         refine goes_ Tryz.func68 (by kernel_rfl) rfl #[.pointer (some ⟨g, 6, none⟩), .int .i64 n] (by rfl) rfl rfl (by (try simp only [mA_, mC_, mN_]); first | done | rfl) ?_
         refine (least_calls g 6 c.s6 n w2 ((blk_cell hblk2 6).trans rfl) (blk_frozen hblk2 6)).mono ?_
         rintro e w3 ⟨rfl, hw3, hc3⟩
         refine ⟨_, rfl, ?_⟩
         obtain ⟨q1, q2, q3⟩ := least_blk g 6 c.s6 n _ _ w2 w3 hblk2 rfl hw3 hc3
         refine hK.out _ _ ?_
         clear hK K
         refine norm_ (a' := ?_) ?_ ?_
         rotate_left
         ·
          show Act.put _ (some 48) _ = _
          simp only [Act.put, sA_, sZ_, sS_, i64_w, i32_w]
          rfl
         refine done_ (by kernel_rfl) ?_
         go_wp2
         first | go_end0 | ((try simp only [Exit.inBlock, Exit.then]); refine bodyPost_ret (results_none rfl _ _ _) rfl ?_)
         exact ⟨rfl, q1, hk2.trans q2 (.inl rfl), fun w0 hB h => q3 w0 hB (hbl2 w0 hB h)⟩
        ·
         rw [if_neg c7] at h
         have d7 : (nm.toList == ([109, 97, 120, 45, 97, 103, 101] : List UInt8)) = false := beq_eq_false_iff_ne.mpr c7
         by_cases c8 : nm.toList = ([115, 45, 109, 97, 120, 97, 103, 101] : List UInt8)
         ·
          rw [if_pos c8] at h
          have d8 : (nm.toList == ([115, 45, 109, 97, 120, 97, 103, 101] : List UInt8)) = true := beq_iff_eq.mpr c8
          obtain ⟨n, hn, hz⟩ := Option.bind_eq_some_iff.mp h
          clear h
          obtain rfl := Option.some.inj hz
          have HN := Aside0.mk hn
          clear hn hz
          go_enter Tryz.func48, Tryz.ntmps48
          go_wp2_with fail
          refine start_ (n := 6) (S := (fun _ => True)) (ds := [5]) #[false, false, false, false, false, false] (by kernel_rfl) rfl rfl trivial (fun hHeld => ?_)
          refine pure_ (i := 0) (N := some 51) (v := ?_) (a' := ?_) #[true, false, false, false, false, false] rfl rfl (by kernel_rfl) (fun _ _ _ h => h) (Or.inl ⟨by rfl, ?_⟩) ?_ ?_
          rotate_left
          ·
           intro w'
           go_simp
           try (with_reducible rfl)
          rotate_left
          ·
           simp only [Act.put, sA_, sZ_, sS_, i64_w, i32_w]
           rfl
          refine pure_ (i := 1) (N := some 52) (v := ?_) (a' := ?_) #[true, true, false, false, false, false] rfl rfl (by kernel_rfl) (fun _ _ _ h => h) (Or.inl ⟨by rfl, ?_⟩) ?_ ?_
          rotate_left
          ·
           intro w'
           go_simp
           try (with_reducible rfl)
          rotate_left
          ·
           simp only [Act.put, sA_, sZ_, sS_, i64_w, i32_w]
           rfl
          refine pure_ (i := 2) (N := some 53) (v := ?_) (a' := ?_) #[true, true, true, false, false, false] rfl rfl (by kernel_rfl) (fun _ _ _ h => h) (Or.inl ⟨by rfl, ?_⟩) ?_ ?_
          rotate_left
          ·
           intro w'
           go_simp
           try (with_reducible rfl)
          rotate_left
          ·
           simp only [Act.put, sA_, sZ_, sS_, i64_w, i32_w]
           rfl
          refine pure_ (i := 3) (N := some 54) (v := ?_) (a' := ?_) #[true, true, true, true, false, false] rfl rfl (by kernel_rfl) (fun _ _ _ h => h) (Or.inl ⟨by rfl, ?_⟩) ?_ ?_
          rotate_left
          ·
           intro w'
           go_simp
           try (with_reducible rfl)
          rotate_left
          ·
           simp only [Act.put, sA_, sZ_, sS_, i64_w, i32_w]
           rfl
          refine one_ (i := 4) (N := some 55) #[true, true, true, true, true, false] rfl rfl (by kernel_rfl) (by decide) (fun K hK => ?_)
          refine goes_ Tryz.func69 (by kernel_rfl) rfl #[.string arg, .int .i64 0] (by rfl) rfl rfl (by (try simp only [mA_, mC_, mN_]); first | done | rfl) ?_
          refine (control_seconds.calls k arg 0 n _ HN.out).mono ?_
          rintro e w2 ⟨rfl, hb2⟩
          refine ⟨_, rfl, ?_⟩
          have hblk2 := blk_below (bD_ hb) hb2
          have hk2 : KeepBut W w2 g none := (keep_drew (KeepBut.refl _ _ _)).trans (KeepBut.of_below hb2 g none) (.inl rfl)
          have hbl2 : ∀ w0 : World, w0.heap.size ≤ g → Below w0.heap.size w0 W → Below w0.heap.size w0 w2 := fun w0 hB h => below_then (below_drew h) (Nat.le_of_lt (Nat.lt_of_le_of_lt hB hlt)) hb2
          refine hK.out _ _ trivial (fun hHeld => ?_)
          clear hK K
          refine norm_ (a' := ?_) ?_ ?_
          rotate_left
          ·
           show Act.put _ (some 55) _ = _
           simp only [Act.put, sA_, sZ_, sS_, i64_w, i32_w]
           rfl
          refine last_ (i := 5) (N := some 56) #[true, true, true, true, true, true] rfl rfl (by kernel_rfl) (by decide) (fun K hK => ?_)
          refine goes_ Tryz.func68 (by kernel_rfl) rfl #[.pointer (some ⟨g, 7, none⟩), .int .i64 n] (by rfl) rfl rfl (by (try simp only [mA_, mC_, mN_]); first | done | rfl) ?_
          refine (least_calls g 7 c.s7 n w2 ((blk_cell hblk2 7).trans rfl) (blk_frozen hblk2 7)).mono ?_
          rintro e w3 ⟨rfl, hw3, hc3⟩
          refine ⟨_, rfl, ?_⟩
          obtain ⟨q1, q2, q3⟩ := least_blk g 7 c.s7 n _ _ w2 w3 hblk2 rfl hw3 hc3
          refine hK.out _ _ ?_
          clear hK K
          refine norm_ (a' := ?_) ?_ ?_
          rotate_left
          ·
           show Act.put _ (some 56) _ = _
           simp only [Act.put, sA_, sZ_, sS_, i64_w, i32_w]
           rfl
          refine done_ (by kernel_rfl) ?_
          go_wp2
          first | go_end0 | ((try simp only [Exit.inBlock, Exit.then]); refine bodyPost_ret (results_none rfl _ _ _) rfl ?_)
          exact ⟨rfl, q1, hk2.trans q2 (.inl rfl), fun w0 hB h => q3 w0 hB (hbl2 w0 hB h)⟩
         ·
          rw [if_neg c8] at h
          have d8 : (nm.toList == ([115, 45, 109, 97, 120, 97, 103, 101] : List UInt8)) = false := beq_eq_false_iff_ne.mpr c8
          by_cases c9 : nm.toList = ([109, 105, 110, 45, 102, 114, 101, 115, 104] : List UInt8)
          ·
           rw [if_pos c9] at h
           have d9 : (nm.toList == ([109, 105, 110, 45, 102, 114, 101, 115, 104] : List UInt8)) = true := beq_iff_eq.mpr c9
           obtain ⟨n, hn, hz⟩ := Option.bind_eq_some_iff.mp h
           clear h
           obtain rfl := Option.some.inj hz
           have HN := Aside0.mk hn
           clear hn hz
           go_enter Tryz.func48, Tryz.ntmps48
           go_wp2_with fail
           refine start_ (n := 11) (S := (fun W' => W'.cell? ⟨g, 8, none⟩ = some (.int .i64 c.s8))) (ds := [10]) #[false, false, false, false, false, false, false, false, false, false, false] (by kernel_rfl) rfl rfl ((blk_cell (bD_ hb) 8).trans rfl) (fun hHeld => ?_)
           refine pure_ (i := 0) (N := some 59) (v := ?_) (a' := ?_) #[true, false, false, false, false, false, false, false, false, false, false] rfl rfl (by kernel_rfl) (fun _ _ _ h => h) (Or.inl ⟨by rfl, ?_⟩) ?_ ?_
           rotate_left
           ·
            intro w'
            go_simp
            try (with_reducible rfl)
           rotate_left
           ·
            simp only [Act.put, sA_, sZ_, sS_, i64_w, i32_w]
            rfl
           refine pure_ (i := 1) (N := some 60) (v := ?_) (a' := ?_) #[true, true, false, false, false, false, false, false, false, false, false] rfl rfl (by kernel_rfl) (fun _ _ _ h => h) (Or.inl ⟨by rfl, ?_⟩) ?_ ?_
           rotate_left
           ·
            intro w'
            go_simp
            try (with_reducible rfl)
           rotate_left
           ·
            simp only [Act.put, sA_, sZ_, sS_, i64_w, i32_w]
            rfl
           refine pure_ (i := 2) (N := some 61) (v := ?_) (a' := ?_) #[true, true, true, false, false, false, false, false, false, false, false] rfl rfl (by kernel_rfl) (fun _ _ _ h => h) (Or.inl ⟨by rfl, ?_⟩) ?_ ?_
           rotate_left
           ·
            intro w'
            go_simp
            try (with_reducible rfl)
           rotate_left
           ·
            simp only [Act.put, sA_, sZ_, sS_, i64_w, i32_w]
            rfl
           refine pure_ (i := 3) (N := some 62) (v := ?_) (a' := ?_) #[true, true, true, true, false, false, false, false, false, false, false] rfl rfl (by kernel_rfl) (fun _ _ _ h => h) (Or.inl ⟨by rfl, ?_⟩) ?_ ?_
           rotate_left
           ·
            intro w'
            go_simp
            try (with_reducible rfl)
           rotate_left
           ·
            simp only [Act.put, sA_, sZ_, sS_, i64_w, i32_w]
            rfl
           refine take_ (i := 4) (N := some 63) (v := ?_) (a' := ?_) #[true, true, true, true, true, false, false, false, false, false, false] rfl rfl (by kernel_rfl) (fun _ _ _ h => h) (Or.inl ⟨by rfl, ?_⟩) hHeld ?_ ?_
           rotate_left
           ·
            intro w' hSw
            go_simp
            try (with_reducible rfl)
           rotate_left
           ·
            simp only [Act.put, sA_, sZ_, sS_, i64_w, i32_w]
            rfl
           refine pure_ (i := 5) (N := some 64) (v := ?_) (a' := ?_) #[true, true, true, true, true, true, false, false, false, false, false] rfl rfl (by kernel_rfl) (fun _ _ _ h => h) (Or.inl ⟨by rfl, ?_⟩) ?_ ?_
           rotate_left
           ·
            intro w'
            go_simp
            try (with_reducible rfl)
           rotate_left
           ·
            simp only [Act.put, sA_, sZ_, sS_, i64_w, i32_w]
            rfl
           refine one_ (i := 6) (N := some 65) #[true, true, true, true, true, true, true, false, false, false, false] rfl rfl (by kernel_rfl) (by decide) (fun K hK => ?_)
           refine goes_ Tryz.func69 (by kernel_rfl) rfl #[.string arg, .int .i64 2147483648] (by rfl) rfl rfl (by (try simp only [mA_, mC_, mN_]); first | done | rfl) ?_
           refine (control_seconds.calls k arg 2147483648 n _ HN.out).mono ?_
           rintro e w2 ⟨rfl, hb2⟩
           refine ⟨_, rfl, ?_⟩
           have hblk2 := blk_below (bD_ hb) hb2
           have hk2 : KeepBut W w2 g none := (keep_drew (KeepBut.refl _ _ _)).trans (KeepBut.of_below hb2 g none) (.inl rfl)
           have hbl2 : ∀ w0 : World, w0.heap.size ≤ g → Below w0.heap.size w0 W → Below w0.heap.size w0 w2 := fun w0 hB h => below_then (below_drew h) (Nat.le_of_lt (Nat.lt_of_le_of_lt hB hlt)) hb2
           refine hK.out _ _ ((blk_cell hblk2 8).trans rfl) (fun hHeld => ?_)
           clear hK K
           refine norm_ (a' := ?_) ?_ ?_
           rotate_left
           ·
            show Act.put _ (some 65) _ = _
            simp only [Act.put, sA_, sZ_, sS_, i64_w, i32_w]
            rfl
           refine pure_ (i := 7) (N := some 66) (v := ?_) (a' := ?_) #[true, true, true, true, true, true, true, true, false, false, false] rfl rfl (by kernel_rfl) (fun _ _ _ h => h) (Or.inl ⟨by rfl, ?_⟩) ?_ ?_
           rotate_left
           ·
            intro w'
            go_simp
            try (with_reducible rfl)
           rotate_left
           ·
            simp only [Act.put, sA_, sZ_, sS_, i64_w, i32_w]
            rfl
           refine pure_ (i := 8) (N := some 67) (v := ?_) (a' := ?_) #[true, true, true, true, true, true, true, true, true, false, false] rfl rfl (by kernel_rfl) (fun _ _ _ h => h) (Or.inl ⟨by rfl, ?_⟩) ?_ ?_
           rotate_left
           ·
            intro w'
            go_simp
            try (with_reducible rfl)
           rotate_left
           ·
            simp only [Act.put, sA_, sZ_, sS_, i64_w, i32_w]
            rfl
           refine pure_ (i := 9) (N := some 68) (v := ?_) (a' := ?_) #[true, true, true, true, true, true, true, true, true, true, false] rfl rfl (by kernel_rfl) (fun _ _ _ h => h) (Or.inl ⟨by rfl, ?_⟩) ?_ ?_
           rotate_left
           ·
            intro w'
            go_simp
            try (with_reducible rfl)
           rotate_left
           ·
            simp only [Act.put, sA_, sZ_, sS_, i64_w, i32_w]
            rfl
           have hc8 : w2.cell? ⟨g, 8, none⟩ = some (.int .i64 c.s8) := (blk_cell hblk2 8).trans rfl
           have hf8 := blk_frozen hblk2 8
           refine last_ (i := 10) (N := none) #[true, true, true, true, true, true, true, true, true, true, true] rfl rfl (by kernel_rfl) (by decide) (fun K hK => ?_)
           refine skip_ (w1 := w2.setCell ⟨g, 8, none⟩ (.int .i64 (mx c.s8 n))) (by rfl) rfl ?_ ?_
           ·
            first | (go_simp; done) | (go_simp; rfl)
           refine hK.out _ _ ?_
           clear hK K
           refine done_ (by kernel_rfl) ?_
           go_wp2
           all_goals (first | go_end0 | ((try simp only [Exit.inBlock, Exit.then]); refine bodyPost_ret (results_none rfl _ _ _) rfl ?_))
           all_goals exact ⟨rfl, blk_put hblk2 8 _ rfl, hk2.set_ 8 _, fun w0 hB h => below_set (hbl2 w0 hB h) hB⟩
          ·
           rw [if_neg c9] at h
           have d9 : (nm.toList == ([109, 105, 110, 45, 102, 114, 101, 115, 104] : List UInt8)) = false := beq_eq_false_iff_ne.mpr c9
           by_cases c10 : nm.toList = ([109, 97, 120, 45, 115, 116, 97, 108, 101] : List UInt8)
           ·
            rw [if_pos c10] at h
            have d10 : (nm.toList == ([109, 97, 120, 45, 115, 116, 97, 108, 101] : List UInt8)) = true := beq_iff_eq.mpr c10
            cases has with
            | true =>
             rw [if_pos rfl] at h
             obtain ⟨n, hn, hz⟩ := Option.bind_eq_some_iff.mp h
             clear h
             obtain rfl := Option.some.inj hz
             have HN := Aside0.mk hn
             clear hn hz
             go_enter Tryz.func48, Tryz.ntmps48
             go_wp2_with (first | (go_at_call 69; refine (control_seconds.calls k arg 0 n _ HN.out).mono ?_; rintro e w2 ⟨rfl, hb2⟩; have hblk2 := blk_below hb hb2) | (go_at_call 68; refine (least_calls g 9 c.s9 n _ ((blk_cell hblk2 9).trans rfl) (blk_frozen hblk2 9)).mono ?_; rintro e w3 ⟨rfl, hw3, hc3⟩))
             first | go_end0 | ((try simp only [Exit.inBlock, Exit.then]); refine bodyPost_ret (results_none rfl _ _ _) rfl ?_)
             obtain ⟨q1, q2, q3⟩ := least_blk g 9 c.s9 n _ _ w2 w3 hblk2 rfl hw3 hc3
             exact ⟨rfl, q1, (KeepBut.of_below hb2 g none).trans q2 (.inl rfl), fun w0 hB h => q3 w0 hB (below_then h (Nat.le_of_lt (Nat.lt_of_le_of_lt hB hlt)) hb2)⟩
            | false =>
             rw [if_neg (by simp)] at h
             obtain rfl := Option.some.inj h
             clear h
             go_enter Tryz.func48, Tryz.ntmps48
             go_wp2_with (go_at_call 68; refine (least_calls g 9 c.s9 2147483648 _ ((blk_cell hb 9).trans rfl) (blk_frozen hb 9)).mono ?_; rintro e w3 ⟨rfl, hw3, hc3⟩)
             first | go_end0 | ((try simp only [Exit.inBlock, Exit.then]); refine bodyPost_ret (results_none rfl _ _ _) rfl ?_)
             obtain ⟨q1, q2, q3⟩ := least_blk g 9 c.s9 2147483648 _ _ W w3 hb rfl hw3 hc3
             exact ⟨rfl, q1, q2, fun w0 hB h => q3 w0 hB h⟩
           ·
            rw [if_neg c10] at h
            have d10 : (nm.toList == ([109, 97, 120, 45, 115, 116, 97, 108, 101] : List UInt8)) = false := beq_eq_false_iff_ne.mpr c10
            obtain rfl := Option.some.inj h
            clear h
            go_enter Tryz.func48, Tryz.ntmps48
            go_wp2
            first | go_end0 | ((try simp only [Exit.inBlock, Exit.then]); refine bodyPost_ret (results_none rfl _ _ _) rfl ?_)
            exact ⟨rfl, hb, KeepBut.refl _ _ _, fun w0 _ h => h⟩

-- NOT PRINTED: function 71 (field_List_Has_1)

/-! ### field_List_Has: function 50, by hand -/
-- over 46 70 72 73
theorem Has1_calls (wd : ByteArray) (B : Nat) (x : ByteArray) (W : World) (hx : x.size ≤ 140737488351232) (hn : wd.size ≤ 140737488351232) (hc : W.cell? ⟨B, 0, none⟩ = some (.string wd)) :
  Calls Tryz.prog 71 #[.string x, .pointer (some ⟨B, 0, none⟩)] W fun e w' => e = .returned (.bool (sameB x wd)) ∧ Below W.heap.size W w' := by
 have C := Same_calls x wd hx hn W
 generalize sameB x wd = z at *
 go_enter Tryz.func71, Tryz.ntmps71
 go_wp2_with (go_at_call 72; refine C.mono ?_; rintro e w' ⟨rfl, hb'⟩)
 go_ret
 exact ⟨rfl, hb'⟩
def field_List_Has.f (k : Nat) (l0 : List S46) (a1 a2 : ByteArray) : Option Bool :=
 (field_List_Elements.f k l0 a1).bind fun es => if namedOk a2 es then some (es.any fun e => sameB e a2) else none
theorem field_List_Has.mono : ∀ l0 a1 a2 k, LeO (field_List_Has.f k l0 a1 a2) (field_List_Has.f (k + 1) l0 a1 a2) := by
 intro l0 a1 a2 k
 unfold field_List_Has.f
 exact LeO.bind (field_List_Elements.mono _ _ _) (fun _ => LeO.refl _)
set_option maxHeartbeats 2000000 in
set_option maxRecDepth 100000 in
theorem field_List_Has.calls (k : Nat) (A0 : Option Addr) (c0 : Nat) (l0 : List S46) (a1 a2 : ByteArray) (r : Bool) (w : World) (hr0 : Kd.C k46 w A0 l0.length l0) (hc0 : l0.length ≤ c0) (h : field_List_Has.f k l0 a1 a2 = some r) :
  Calls Tryz.prog 50 #[.slice A0 l0.length c0, .string a1, .string a2] w fun e w' => e = .returned (.bool r) ∧ Below w.heap.size w w' := by
 unfold field_List_Has.f at h
 obtain ⟨es, he, h⟩ := Option.bind_eq_some_iff.mp h
 by_cases hok : namedOk a2 es
 case neg => rw [if_neg hok] at h; cases h
 rw [if_pos hok] at h
 obtain rfl := Option.some.inj h
 clear h
 obtain ⟨h0, h1, h2⟩ := hok
 have hbl : Below w.heap.size w (w.alloc (.cells #[.string a2] 9)) := (Below.refl _ _).alloc (Nat.le_refl _) _
 have E := field_List_Elements.calls k A0 c0 l0 a1 es (w.alloc (.cells #[.string a2] 9)) (Kd.C_below hr0 hbl) hc0 he
 have hcell : (w.alloc (.cells #[.string a2] 9)).cell? ⟨w.heap.size, 0, none⟩ = some (.string a2) := by simp
 have eg : ∀ args w, (callFunc 71 args).run Tryz.prog w = .ok (.enter 71 args) w := enters_of Tryz.func71 (by kernel_rfl) rfl
 have C : ∀ (A : Option Addr) (c : Nat) (W : World), Below (w.alloc (.cells #[.string a2] 9)).heap.size (w.alloc (.cells #[.string a2] 9)) W → Kd.C Kd.string W A es.length es → es.length ≤ c → Calls Tryz.prog 70 #[.slice A es.length c, .func (.func 71) #[] #[.pointer (some ⟨w.heap.size, 0, none⟩)]] W fun e w' => e = .returned (.bool (es.any fun e => sameB e a2)) ∧ Below W.heap.size W w' :=
  fun A c W hb hC hc => ContainsFunc_string (fun n => sameB n a2) 71 #[.pointer (some ⟨w.heap.size, 0, none⟩)] eg A c es W (fun W' x hx hb' => Has1_calls a2 w.heap.size x W' (h2 x hx) h0 (pw_cell_below hb' (pw_cell_below hb hcell))) hC hc (by omega)
 have HC := Aside0.mk C
 have HBL := Aside0.mk hbl
 clear C hbl hcell
 generalize (es.any fun e => sameB e a2) = z at *
 go_enter Tryz.func50, Tryz.ntmps50
 go_wp2_with (first | (go_at_call 46; refine E.mono ?_; rintro e w1 ⟨v1, rfl, hv1, hb1⟩; obtain ⟨A, c, rfl, hlc, hC⟩ := Kd.R_reads hv1) | (go_at_call 70; refine (HC.out A c w1 hb1 hC hlc).mono ?_; rintro e w' ⟨rfl, hb'⟩))
 go_ret
 have hB := below_then HBL.out HBL.out.size hb1
 exact ⟨rfl, below_then hB hB.size hb'⟩

end Go.Proofs.YtgpekljckdgggaaGreatDoor.PAll
