import Derived.Test.YtlncpbnadlpihaaGreatDoorPAllx0
import Derived.Test.YtlncpbnadlpihaaGreatDoorPAllx8
import Derived.Test.YtlncpbnadlpihaaGreatDoorPAllx12
import Derived.Test.YtlncpbnadlpihaaGreatDoorPAllx13
namespace Go.Proofs.YtlncpbnadlpihaaGreatDoor.PAll
open Go.RowKit Go.Proofs.YtlncpbnadlpihaaGreatDoorW.PrintWords Go.Proofs.YtlncpbnadlpihaaGreatDoorW.PrintLast Go.Proofs.YtlncpbnadlpihaaGreatDoorW.PrintMore
attribute [local go_sem] max2_int min2_int max_two min_two max_three min_three max_four min_four   -- for this text's walks alone
set_option linter.unusedVariables false
set_option linter.unusedSimpArgs false

/-! ### conf_words: function 43, by hand -/
-- over 57
theorem WI.start (W : World) (text : ByteArray) : WI W ((((W.alloc (.cells #[.string text] 9)).alloc (.cells #[.slice none 0 0] 92)).alloc (.cells #[.int .i64 1] 3)).alloc (.cells #[.int .i64 (-1)] 3)) text [] 1 (-1) (.slice none 0 0) := by
 have s1 : (W.alloc (.cells #[.string text] 9)).heap.size = W.heap.size + 1 := by simp
 have s2 : ((W.alloc (.cells #[.string text] 9)).alloc (.cells #[.slice none 0 0] 92)).heap.size = W.heap.size + 2 := by simp
 have s3 : (((W.alloc (.cells #[.string text] 9)).alloc (.cells #[.slice none 0 0] 92)).alloc (.cells #[.int .i64 1] 3)).heap.size = W.heap.size + 3 := by simp
 have h1 := heap_alloc_new W (.cells #[.string text] 9)
 have h2 := heap_alloc_new (W.alloc (.cells #[.string text] 9)) (.cells #[.slice none 0 0] 92)
 have h3 := heap_alloc_new ((W.alloc (.cells #[.string text] 9)).alloc (.cells #[.slice none 0 0] 92)) (.cells #[.int .i64 1] 3)
 have h4 := heap_alloc_new (((W.alloc (.cells #[.string text] 9)).alloc (.cells #[.slice none 0 0] 92)).alloc (.cells #[.int .i64 1] 3)) (.cells #[.int .i64 (-1)] 3)
 rw [s1] at h2
 rw [s2] at h3
 rw [s3] at h4
 exact ⟨bA_ (bA_ (bA_ h1 _) _) _, bA_ (bA_ h2 _) _, bA_ h3 _, h4, Kd.R_nil _ _ _ _ _,
  (((((Below.refl W.heap.size W).alloc (Nat.le_refl _) _).alloc (by rw [s1]; omega) _).alloc (by rw [s2]; omega) _).alloc (by rw [s3]; omega) _)⟩
def skipL : Nat → ByteArray → Int → Option Int
 | 0, _, _ => none
 | k + 1, t, i => if i + 1 < (t.size : Int) then (if bt t (i + 1) = 10 then some i else skipL k t (i + 1)) else some i
def wordsL : Nat → ByteArray → List WD → Int → Int → Int → Option (List WD)
 | 0, _, _, _, _, _ => none
 | k + 1, t, out, line, fr, i => if i < (t.size : Int) then
   (if bt t i = 47 ∧ i + 1 < (t.size : Int) ∧ bt t (i + 1) = 47 then (skipL k t i).bind fun j => wordsL k t (endW t out line fr i) line (-1) (j + 1)
   else if bt t i = 32 ∨ bt t i = 9 then wordsL k t (endW t out line fr i) line (-1) (i + 1)
   else if bt t i = 10 then wordsL k t (endW t out line fr i) (line + 1) (-1) (i + 1)
   else if bt t i = 123 ∨ bt t i = 125 ∨ bt t i = 59 then wordsL k t (endW t out line fr i ++ [(cutW t i (i + 1), line)]) line (-1) (i + 1)
   else if fr < 0 then wordsL k t out line i (i + 1) else wordsL k t out line fr (i + 1))
  else some (endW t out line fr (t.size : Int) ++ [(emptyB, line)])
def wordsF (k : Nat) (t : ByteArray) : Option (List WD) := if t.size ≤ 4096 then wordsL k t [] 1 (-1) 0 else none
theorem skipL_mono : ∀ k t i, LeO (skipL k t i) (skipL (k + 1) t i)
 | 0, _, _ => fun r h => by simp [skipL] at h
 | k + 1, t, i => by
  have ih := skipL_mono k
  unfold skipL
  repeat' (with_reducible first | exact ih _ _ | exact lR_ | refine LeO.ite ?_ ?_)
theorem wordsL_mono : ∀ k t out line fr i, LeO (wordsL k t out line fr i) (wordsL (k + 1) t out line fr i)
 | 0, _, _, _, _, _ => fun r h => by simp [wordsL] at h
 | k + 1, t, out, line, fr, i => by
  have ih := wordsL_mono k
  unfold wordsL
  repeat' (with_reducible first | exact ih _ _ _ _ _ | exact skipL_mono _ _ _ | exact lR_ | refine LeO.ite ?_ ?_ | refine LeO.bind ?_ (fun _ => ?_))
theorem wordsF_mono (k : Nat) (t : ByteArray) : LeO (wordsF k t) (wordsF (k + 1) t) := by
 unfold wordsF
 split
 ·
  exact wordsL_mono _ _ _ _ _ _
 ·
  exact LeO.refl _
theorem wrap_in (i : Int) (h0 : 0 ≤ i) (h1 : i ≤ 1000000) : wrap64 i = i := IntWalk.wrap64_in _ (by omega)
/-- What is known of the round's numbers. -/
structure WB (text : ByteArray) (out : List WD) (line fr i : Int) : Prop where
 sz : (text.size : Int) ≤ 4096
 i0 : 0 ≤ i
 i1 : i ≤ (text.size : Int)
 fr1 : fr ≤ i
 ln0 : 1 ≤ line
 ln1 : line ≤ i + 1
 len : (out.length : Int) ≤ 2 * i
theorem endW_len (t : ByteArray) (out : List WD) (line fr i : Int) : (endW t out line fr i).length ≤ out.length + 1 := by
 unfold endW
 split <;> simp
theorem endW_nil (t : ByteArray) (out : List WD) (line i : Int) : endW t out line (-1) i = out := rfl

set_option maxHeartbeats 8000000 in
set_option maxRecDepth 100000 in
theorem words_walk (k : Nat) (W : World) (text : ByteArray) (r : List WD) (hsz : text.size ≤ 4096) (hf : wordsL k text [] 1 (-1) 0 = some r) :
  Calls Tryz.prog 43 #[.string text] W fun e w' => ∃ v, e = .returned v ∧ Kd.R kW 113 w' W.heap.size (fun _ => True) v r ∧ Below W.heap.size W w' := by
 have HF := Aside0.mk hf
 have HSZ := Aside0.mk hsz
 clear hf hsz
 go_enter Tryz.func43, Tryz.ntmps43
 go_wp2_with fail
 have HS := Aside0.mk (WI.start W text)
 generalize ((((W.alloc (.cells #[.string text] 9)).alloc (.cells #[.slice none 0 0] 92)).alloc (.cells #[.int .i64 1] 3)).alloc (.cells #[.int .i64 (-1)] 3)) = w1 at *
 go_loopg [7] k (fun kq v7 w' => ∃ (out : List WD) (line fr i : Int) (v : Value), v7 = .int .i64 i ∧ Aside0 (wordsL kq text out line fr i = some r) ∧ Aside0 (kq ≤ k) ∧ Aside0 (WI W w' text out line fr v) ∧ Aside0 (WB text out line fr i))
 case atStart => exact ⟨[], 1, -1, 0, .slice none 0 0, rfl, HF, ⟨Nat.le_refl _⟩, HS, ⟨⟨by have h_ := HSZ.out; omega, by omega, by omega, by omega, by omega, by omega, by simp⟩⟩⟩
 case round =>
  clear HF HS
  obtain ⟨out, line, fr, i, v, rfl, HL, HQ, HI, HB⟩ := hrel
  cases gk with
  | zero => exact absurd HL.out (by simp [wordsL])
  | succ k1 =>
   have H := HL.out
   clear HL
   simp only [wordsL] at H
   have c1 := (blk_cell HI.out.t1 0).trans rfl
   by_cases hi : i < (text.size : Int)
   ·
    rw [if_pos hi] at H
    have hx := bt_at text i
    have p0 : (0 ≤ i) = True := eq_true HB.out.i0
    have p1 : (i < (text.size : Int)) = True := eq_true hi
    have p2 : decide (i < (text.size : Int)) = true := decide_eq_true hi
    have HI1 := Aside0.mk hi
    have HW := Aside0.mk (show wrap64 (i + 1) = i + 1 from wrap_in _ (by have h_ := HB.out.i0; omega) (by have h_ := HB.out.sz; omega))
    by_cases hc : bt text i = 47
    ·
     by_cases h1 : i + 1 < (text.size : Int)
     ·
      skip
      have r0 : (0 ≤ wrap64 (i + 1)) = True := eq_true (by rw [HW.out]; have h_ := HB.out.i0; omega)
      have r1 : (wrap64 (i + 1) < (text.size : Int)) = True := eq_true (by rw [HW.out]; exact h1)
      have hx1 := bt_at text (wrap64 (i + 1))
      have s1 : decide (wrap64 (i + 1) < (text.size : Int)) = true := decide_eq_true (by rw [HW.out]; exact h1)
      by_cases h2 : bt text (i + 1) = 47
      ·
       rw [if_pos ⟨hc, h1, h2⟩] at H
       have n47 : (bt text (wrap64 (i + 1)) == 47) = true := beq_iff_eq.mpr (by rw [HW.out]; exact h2)
       clear h1 h2
       have e32 : (bt text i == 32) = false := beq_eq_false_iff_ne.mpr (by rw [hc]; decide)
       have e9 : (bt text i == 9) = false := beq_eq_false_iff_ne.mpr (by rw [hc]; decide)
       have e10 : (bt text i == 10) = false := beq_eq_false_iff_ne.mpr (by rw [hc]; decide)
       have e123 : (bt text i == 123) = false := beq_eq_false_iff_ne.mpr (by rw [hc]; decide)
       have e125 : (bt text i == 125) = false := beq_eq_false_iff_ne.mpr (by rw [hc]; decide)
       have e59 : (bt text i == 59) = false := beq_eq_false_iff_ne.mpr (by rw [hc]; decide)
       have e47 : (bt text i == 47) = true := beq_iff_eq.mpr hc
       clear hc
       obtain ⟨j, hj, H⟩ := Option.bind_eq_some_iff.mp H
       have HJ := Aside0.mk hj
       have HH := Aside0.mk H
       clear hj H
       have g1 := (blk_cell HI.out.t1 0).trans rfl
       clear hi
       go_wp2_with fail
       refine (words_end W wr text out line fr i v HI.out (by have h_ := HB.out.len; have h2_ := HB.out.i1; have h3_ := HB.out.sz; omega) (by have h_ := HB.out.i0; omega) HB.out.fr1 HB.out.i1).mono ?_
       rintro e w2 ⟨rfl, v2, K2_⟩
       have K2 := Aside0.mk K2_
       clear K2_
       clear g1 hx p0 p1 r0 r1 hx1 s1 n47 p2 e123 e125 e59 e32 e9
       go_wp2_with fail
       go_loopg [7] k1 (fun kq v7 w' => ∃ (i2 : Int), v7 = .int .i64 i2 ∧ Aside0 (skipL kq text i2 = some j) ∧ Aside0 (kq ≤ k1) ∧ Aside0 (WI W w' text (endW text out line fr i) line (-1) v2) ∧ Aside0 (i ≤ i2 ∧ i2 < (text.size : Int)))
       case atStart => exact ⟨i, rfl, HJ, ⟨Nat.le_refl _⟩, K2, ⟨⟨Int.le_refl _, HI1.out⟩⟩⟩
       case round =>
        clear HJ K2
        obtain ⟨i2, rfl, HJ, HQ2, K2, HI2⟩ := hrel
        cases gk with
        | zero => exact absurd HJ.out (by simp [skipL])
        | succ k2 =>
         have J := HJ.out
         clear HJ
         simp only [skipL] at J
         have g1 := (blk_cell K2.out.t1 0).trans rfl
         have HW2 := Aside0.mk (show wrap64 (i2 + 1) = i2 + 1 from wrap_in _ (by have h_ := HB.out.i0; have h2_ := HI2.out.1; omega) (by have h_ := HB.out.sz; have h2_ := HI2.out.2; omega))
         by_cases h1 : i2 + 1 < (text.size : Int)
         ·
          rw [if_pos h1] at J
          have s1 : decide (wrap64 (i2 + 1) < (text.size : Int)) = true := decide_eq_true (by rw [HW2.out]; exact h1)
          have r0 : (0 ≤ wrap64 (i2 + 1)) = True := eq_true (by rw [HW2.out]; have h_ := HB.out.i0; have h2_ := HI2.out.1; omega)
          have r1 : (wrap64 (i2 + 1) < (text.size : Int)) = True := eq_true (by rw [HW2.out]; exact h1)
          have hx1 := bt_at text (wrap64 (i2 + 1))
          by_cases h2 : bt text (i2 + 1) = 10
          ·
           rw [if_pos h2] at J
           obtain rfl := Option.some.inj J
           have t10 : (bt text (wrap64 (i2 + 1)) != 10) = false := bne_eq_false_iff_eq.mpr (by rw [HW2.out]; exact h2)
           have t10' : (bt text (wrap64 (i2 + 1)) == 10) = true := beq_iff_eq.mpr (by rw [HW2.out]; exact h2)
           clear h1 h2 J
           go_wp2
           rw [HW2.out]
           have HB2 : Aside0 (WB text (endW text out line fr i) (line) (-1) (i2 + 1)) := ⟨⟨HB.out.sz, by have h_ := HB.out.i0; have h2_ := HI1.out; have h7_ := HI2.out.1; have h8_ := HI2.out.2; omega, by have h_ := HB.out.i0; have h2_ := HI1.out; have h7_ := HI2.out.1; have h8_ := HI2.out.2; omega, by have h_ := HB.out.i0; have h2_ := HB.out.fr1; have h7_ := HI2.out.1; have h8_ := HI2.out.2; omega, by have h_ := HB.out.ln0; omega, by have h_ := HB.out.ln1; have h7_ := HI2.out.1; have h8_ := HI2.out.2; omega, by have h_ := HB.out.len; have h2_ := endW_len text out line fr i; have h7_ := HI2.out.1; have h8_ := HI2.out.2; omega⟩⟩
           go_roundg k1
           case measure => have h_ := HQ.out; omega
           case rel => exact ⟨_, _, _, _, _, rfl, HH, ⟨by have h_ := HQ.out; omega⟩, K2, HB2⟩
          ·
           rw [if_neg h2] at J
           have t10 : (bt text (wrap64 (i2 + 1)) != 10) = true := bne_iff_ne.mpr (by rw [HW2.out]; exact h2)
           have t10' : (bt text (wrap64 (i2 + 1)) == 10) = false := beq_eq_false_iff_ne.mpr (by rw [HW2.out]; exact h2)
           have HJ := Aside0.mk J
           have HI3 := Aside0.mk h1
           clear h1 h2 J
           go_wp2
           rw [HW2.out]
           go_roundg k2
           case measure => have h_ := HQ2.out; omega
           case rel => exact ⟨_, rfl, HJ, ⟨by have h_ := HQ2.out; omega⟩, K2, ⟨⟨by have h_ := HI2.out.1; omega, HI3.out⟩⟩⟩
         ·
          rw [if_neg h1] at J
          obtain rfl := Option.some.inj J
          have s1 : decide (wrap64 (i2 + 1) < (text.size : Int)) = false := decide_eq_false (by rw [HW2.out]; exact h1)
          clear h1 J
          go_wp2
          rw [HW2.out]
          have HB2 : Aside0 (WB text (endW text out line fr i) (line) (-1) (i2 + 1)) := ⟨⟨HB.out.sz, by have h_ := HB.out.i0; have h2_ := HI1.out; have h7_ := HI2.out.1; have h8_ := HI2.out.2; omega, by have h_ := HB.out.i0; have h2_ := HI1.out; have h7_ := HI2.out.1; have h8_ := HI2.out.2; omega, by have h_ := HB.out.i0; have h2_ := HB.out.fr1; have h7_ := HI2.out.1; have h8_ := HI2.out.2; omega, by have h_ := HB.out.ln0; omega, by have h_ := HB.out.ln1; have h7_ := HI2.out.1; have h8_ := HI2.out.2; omega, by have h_ := HB.out.len; have h2_ := endW_len text out line fr i; have h7_ := HI2.out.1; have h8_ := HI2.out.2; omega⟩⟩
          go_roundg k1
          case measure => have h_ := HQ.out; omega
          case rel => exact ⟨_, _, _, _, _, rfl, HH, ⟨by have h_ := HQ.out; omega⟩, K2, HB2⟩
      ·
       rw [if_neg (fun h_ => h2 h_.2.2)] at H
       have n47 : (bt text (wrap64 (i + 1)) == 47) = false := beq_eq_false_iff_ne.mpr (by rw [HW.out]; exact h2)
       clear h1 h2
       have e32 : (bt text i == 32) = false := beq_eq_false_iff_ne.mpr (by rw [hc]; decide)
       have e9 : (bt text i == 9) = false := beq_eq_false_iff_ne.mpr (by rw [hc]; decide)
       have e10 : (bt text i == 10) = false := beq_eq_false_iff_ne.mpr (by rw [hc]; decide)
       have e123 : (bt text i == 123) = false := beq_eq_false_iff_ne.mpr (by rw [hc]; decide)
       have e125 : (bt text i == 125) = false := beq_eq_false_iff_ne.mpr (by rw [hc]; decide)
       have e59 : (bt text i == 59) = false := beq_eq_false_iff_ne.mpr (by rw [hc]; decide)
       have e47 : (bt text i == 47) = true := beq_iff_eq.mpr hc
       rw [if_neg (by rw [hc]; decide), if_neg (by rw [hc]; decide), if_neg (by rw [hc]; decide)] at H
       clear hc
       by_cases hn : fr < 0
       ·
        rw [if_pos hn] at H
        have HH := Aside0.mk H
        clear H
        have g1 := (blk_cell HI.out.t1 0).trans rfl
        have g5 : wr.cell? ⟨W.heap.size + 1 + 1 + 1, 0, none⟩ = some (.int .i64 fr) := (blk_cell HI.out.t5 0).trans rfl
        have f5 : wr.frozen? ⟨W.heap.size + 1 + 1 + 1, 0, none⟩ = false := blk_frozen HI.out.t5 0
        clear hi
        have n0 : decide (fr < 0) = true := decide_eq_true hn
        clear hn
        go_wp2
        have K3 := Aside0.mk (HI.out.from_ i)
        rw [HW.out]
        have HB2 : Aside0 (WB text (out) (line) (i) (i + 1)) := ⟨⟨HB.out.sz, by have h_ := HB.out.i0; have h2_ := HI1.out; omega, by have h_ := HB.out.i0; have h2_ := HI1.out; omega, by have h_ := HB.out.i0; have h2_ := HB.out.fr1; omega, by have h_ := HB.out.ln0; omega, by have h_ := HB.out.ln1; omega, by have h_ := HB.out.len; have h2_ := endW_len text out line fr i; omega⟩⟩
        go_roundg k1
        case measure => have h_ := HQ.out; omega
        case rel => exact ⟨_, _, _, _, _, rfl, HH, ⟨by have h_ := HQ.out; omega⟩, K3, HB2⟩
       ·
        rw [if_neg hn] at H
        have HH := Aside0.mk H
        clear H
        have g1 := (blk_cell HI.out.t1 0).trans rfl
        have g5 : wr.cell? ⟨W.heap.size + 1 + 1 + 1, 0, none⟩ = some (.int .i64 fr) := (blk_cell HI.out.t5 0).trans rfl
        have f5 : wr.frozen? ⟨W.heap.size + 1 + 1 + 1, 0, none⟩ = false := blk_frozen HI.out.t5 0
        clear hi
        have n0 : decide (fr < 0) = false := decide_eq_false hn
        clear hn
        go_wp2
        rw [HW.out]
        have HB2 : Aside0 (WB text (out) (line) (fr) (i + 1)) := ⟨⟨HB.out.sz, by have h_ := HB.out.i0; have h2_ := HI1.out; omega, by have h_ := HB.out.i0; have h2_ := HI1.out; omega, by have h_ := HB.out.i0; have h2_ := HB.out.fr1; omega, by have h_ := HB.out.ln0; omega, by have h_ := HB.out.ln1; omega, by have h_ := HB.out.len; have h2_ := endW_len text out line fr i; omega⟩⟩
        go_roundg k1
        case measure => have h_ := HQ.out; omega
        case rel => exact ⟨_, _, _, _, _, rfl, HH, ⟨by have h_ := HQ.out; omega⟩, HI, HB2⟩
     ·
      rw [if_neg (fun h_ => h1 h_.2.1)] at H
      have s1 : decide (wrap64 (i + 1) < (text.size : Int)) = false := decide_eq_false (by rw [HW.out]; exact h1)
      clear h1
      have e32 : (bt text i == 32) = false := beq_eq_false_iff_ne.mpr (by rw [hc]; decide)
      have e9 : (bt text i == 9) = false := beq_eq_false_iff_ne.mpr (by rw [hc]; decide)
      have e10 : (bt text i == 10) = false := beq_eq_false_iff_ne.mpr (by rw [hc]; decide)
      have e123 : (bt text i == 123) = false := beq_eq_false_iff_ne.mpr (by rw [hc]; decide)
      have e125 : (bt text i == 125) = false := beq_eq_false_iff_ne.mpr (by rw [hc]; decide)
      have e59 : (bt text i == 59) = false := beq_eq_false_iff_ne.mpr (by rw [hc]; decide)
      have e47 : (bt text i == 47) = true := beq_iff_eq.mpr hc
      rw [if_neg (by rw [hc]; decide), if_neg (by rw [hc]; decide), if_neg (by rw [hc]; decide)] at H
      clear hc
      by_cases hn : fr < 0
      ·
       rw [if_pos hn] at H
       have HH := Aside0.mk H
       clear H
       have g1 := (blk_cell HI.out.t1 0).trans rfl
       have g5 : wr.cell? ⟨W.heap.size + 1 + 1 + 1, 0, none⟩ = some (.int .i64 fr) := (blk_cell HI.out.t5 0).trans rfl
       have f5 : wr.frozen? ⟨W.heap.size + 1 + 1 + 1, 0, none⟩ = false := blk_frozen HI.out.t5 0
       clear hi
       have n0 : decide (fr < 0) = true := decide_eq_true hn
       clear hn
       go_wp2
       have K3 := Aside0.mk (HI.out.from_ i)
       rw [HW.out]
       have HB2 : Aside0 (WB text (out) (line) (i) (i + 1)) := ⟨⟨HB.out.sz, by have h_ := HB.out.i0; have h2_ := HI1.out; omega, by have h_ := HB.out.i0; have h2_ := HI1.out; omega, by have h_ := HB.out.i0; have h2_ := HB.out.fr1; omega, by have h_ := HB.out.ln0; omega, by have h_ := HB.out.ln1; omega, by have h_ := HB.out.len; have h2_ := endW_len text out line fr i; omega⟩⟩
       go_roundg k1
       case measure => have h_ := HQ.out; omega
       case rel => exact ⟨_, _, _, _, _, rfl, HH, ⟨by have h_ := HQ.out; omega⟩, K3, HB2⟩
      ·
       rw [if_neg hn] at H
       have HH := Aside0.mk H
       clear H
       have g1 := (blk_cell HI.out.t1 0).trans rfl
       have g5 : wr.cell? ⟨W.heap.size + 1 + 1 + 1, 0, none⟩ = some (.int .i64 fr) := (blk_cell HI.out.t5 0).trans rfl
       have f5 : wr.frozen? ⟨W.heap.size + 1 + 1 + 1, 0, none⟩ = false := blk_frozen HI.out.t5 0
       clear hi
       have n0 : decide (fr < 0) = false := decide_eq_false hn
       clear hn
       go_wp2
       rw [HW.out]
       have HB2 : Aside0 (WB text (out) (line) (fr) (i + 1)) := ⟨⟨HB.out.sz, by have h_ := HB.out.i0; have h2_ := HI1.out; omega, by have h_ := HB.out.i0; have h2_ := HI1.out; omega, by have h_ := HB.out.i0; have h2_ := HB.out.fr1; omega, by have h_ := HB.out.ln0; omega, by have h_ := HB.out.ln1; omega, by have h_ := HB.out.len; have h2_ := endW_len text out line fr i; omega⟩⟩
       go_roundg k1
       case measure => have h_ := HQ.out; omega
       case rel => exact ⟨_, _, _, _, _, rfl, HH, ⟨by have h_ := HQ.out; omega⟩, HI, HB2⟩
    ·
     rw [if_neg (fun h_ => hc h_.1)] at H
     have hc47 := hc
     clear hc
     have e47 : (bt text i == 47) = false := beq_eq_false_iff_ne.mpr hc47
     by_cases hb : bt text i = 32 ∨ bt text i = 9
     ·
      rw [if_pos hb] at H
      rcases hb with hc | hc
      ·
       have e32 : (bt text i == 32) = true := beq_iff_eq.mpr hc
       have e9 : (bt text i == 9) = false := beq_eq_false_iff_ne.mpr (by rw [hc]; decide)
       have e10 : (bt text i == 10) = false := beq_eq_false_iff_ne.mpr (by rw [hc]; decide)
       have e123 : (bt text i == 123) = false := beq_eq_false_iff_ne.mpr (by rw [hc]; decide)
       have e125 : (bt text i == 125) = false := beq_eq_false_iff_ne.mpr (by rw [hc]; decide)
       have e59 : (bt text i == 59) = false := beq_eq_false_iff_ne.mpr (by rw [hc]; decide)
       clear hc hc47
       have HH := Aside0.mk H
       clear H
       have g1 := (blk_cell HI.out.t1 0).trans rfl
       clear hi
       go_wp2_with fail
       refine (words_end W wr text out line fr i v HI.out (by have h_ := HB.out.len; have h2_ := HB.out.i1; have h3_ := HB.out.sz; omega) (by have h_ := HB.out.i0; omega) HB.out.fr1 HB.out.i1).mono ?_
       rintro e w2 ⟨rfl, v2, K2_⟩
       have K2 := Aside0.mk K2_
       clear K2_
       go_wp2
       rw [HW.out]
       have HB2 : Aside0 (WB text (endW text out line fr i) (line) (-1) (i + 1)) := ⟨⟨HB.out.sz, by have h_ := HB.out.i0; have h2_ := HI1.out; omega, by have h_ := HB.out.i0; have h2_ := HI1.out; omega, by have h_ := HB.out.i0; have h2_ := HB.out.fr1; omega, by have h_ := HB.out.ln0; omega, by have h_ := HB.out.ln1; omega, by have h_ := HB.out.len; have h2_ := endW_len text out line fr i; omega⟩⟩
       go_roundg k1
       case measure => have h_ := HQ.out; omega
       case rel => exact ⟨_, _, _, _, _, rfl, HH, ⟨by have h_ := HQ.out; omega⟩, K2, HB2⟩
      ·
       have e32 : (bt text i == 32) = false := beq_eq_false_iff_ne.mpr (by rw [hc]; decide)
       have e9 : (bt text i == 9) = true := beq_iff_eq.mpr hc
       have e10 : (bt text i == 10) = false := beq_eq_false_iff_ne.mpr (by rw [hc]; decide)
       have e123 : (bt text i == 123) = false := beq_eq_false_iff_ne.mpr (by rw [hc]; decide)
       have e125 : (bt text i == 125) = false := beq_eq_false_iff_ne.mpr (by rw [hc]; decide)
       have e59 : (bt text i == 59) = false := beq_eq_false_iff_ne.mpr (by rw [hc]; decide)
       clear hc hc47
       have HH := Aside0.mk H
       clear H
       have g1 := (blk_cell HI.out.t1 0).trans rfl
       clear hi
       go_wp2_with fail
       refine (words_end W wr text out line fr i v HI.out (by have h_ := HB.out.len; have h2_ := HB.out.i1; have h3_ := HB.out.sz; omega) (by have h_ := HB.out.i0; omega) HB.out.fr1 HB.out.i1).mono ?_
       rintro e w2 ⟨rfl, v2, K2_⟩
       have K2 := Aside0.mk K2_
       clear K2_
       go_wp2
       rw [HW.out]
       have HB2 : Aside0 (WB text (endW text out line fr i) (line) (-1) (i + 1)) := ⟨⟨HB.out.sz, by have h_ := HB.out.i0; have h2_ := HI1.out; omega, by have h_ := HB.out.i0; have h2_ := HI1.out; omega, by have h_ := HB.out.i0; have h2_ := HB.out.fr1; omega, by have h_ := HB.out.ln0; omega, by have h_ := HB.out.ln1; omega, by have h_ := HB.out.len; have h2_ := endW_len text out line fr i; omega⟩⟩
       go_roundg k1
       case measure => have h_ := HQ.out; omega
       case rel => exact ⟨_, _, _, _, _, rfl, HH, ⟨by have h_ := HQ.out; omega⟩, K2, HB2⟩
     rw [if_neg hb] at H
     by_cases hc : bt text i = 10
     ·
      rw [if_pos hc] at H
      have e32 : (bt text i == 32) = false := beq_eq_false_iff_ne.mpr (by rw [hc]; decide)
      have e9 : (bt text i == 9) = false := beq_eq_false_iff_ne.mpr (by rw [hc]; decide)
      have e10 : (bt text i == 10) = true := beq_iff_eq.mpr hc
      have e123 : (bt text i == 123) = false := beq_eq_false_iff_ne.mpr (by rw [hc]; decide)
      have e125 : (bt text i == 125) = false := beq_eq_false_iff_ne.mpr (by rw [hc]; decide)
      have e59 : (bt text i == 59) = false := beq_eq_false_iff_ne.mpr (by rw [hc]; decide)
      clear hc hc47 hb
      have HH := Aside0.mk H
      clear H
      have g1 := (blk_cell HI.out.t1 0).trans rfl
      clear hi
      go_wp2_with fail
      refine (words_end W wr text out line fr i v HI.out (by have h_ := HB.out.len; have h2_ := HB.out.i1; have h3_ := HB.out.sz; omega) (by have h_ := HB.out.i0; omega) HB.out.fr1 HB.out.i1).mono ?_
      rintro e w2 ⟨rfl, v2, K2_⟩
      have K2 := Aside0.mk K2_
      clear K2_
      have d4 : w2.cell? ⟨W.heap.size + 1 + 1, 0, none⟩ = some (.int .i64 line) := (blk_cell K2.out.t4 0).trans rfl
      have f4 : w2.frozen? ⟨W.heap.size + 1 + 1, 0, none⟩ = false := blk_frozen K2.out.t4 0
      have HWL := Aside0.mk (show wrap64 (line + 1) = line + 1 from wrap_in _ (by have h_ := HB.out.ln0; omega) (by have h_ := HB.out.ln1; have h2_ := HB.out.i1; have h3_ := HB.out.sz; omega))
      go_wp2
      have K3 := Aside0.mk (K2.out.line_ (line + 1))
      rw [HW.out]
      rw [HWL.out]
      have HB2 : Aside0 (WB text (endW text out line fr i) (line + 1) (-1) (i + 1)) := ⟨⟨HB.out.sz, by have h_ := HB.out.i0; have h2_ := HI1.out; omega, by have h_ := HB.out.i0; have h2_ := HI1.out; omega, by have h_ := HB.out.i0; have h2_ := HB.out.fr1; omega, by have h_ := HB.out.ln0; omega, by have h_ := HB.out.ln1; omega, by have h_ := HB.out.len; have h2_ := endW_len text out line fr i; omega⟩⟩
      go_roundg k1
      case measure => have h_ := HQ.out; omega
      case rel => exact ⟨_, _, _, _, _, rfl, HH, ⟨by have h_ := HQ.out; omega⟩, K3, HB2⟩
     rw [if_neg hc] at H
     have e32 : (bt text i == 32) = false := beq_eq_false_iff_ne.mpr (fun e_ => hb (.inl e_))
     have e9 : (bt text i == 9) = false := beq_eq_false_iff_ne.mpr (fun e_ => hb (.inr e_))
     have e10 : (bt text i == 10) = false := beq_eq_false_iff_ne.mpr hc
     clear hb hc
     by_cases hb : bt text i = 123 ∨ bt text i = 125 ∨ bt text i = 59
     ·
      rw [if_pos hb] at H
      rcases hb with hc | hc | hc
      ·
       have e123 : (bt text i == 123) = true := beq_iff_eq.mpr hc
       have e125 : (bt text i == 125) = false := beq_eq_false_iff_ne.mpr (by rw [hc]; decide)
       have e59 : (bt text i == 59) = false := beq_eq_false_iff_ne.mpr (by rw [hc]; decide)
       clear hc hc47
       have HH := Aside0.mk H
       clear H
       have g1 := (blk_cell HI.out.t1 0).trans rfl
       clear hi
       go_wp2_with fail
       refine (words_end W wr text out line fr i v HI.out (by have h_ := HB.out.len; have h2_ := HB.out.i1; have h3_ := HB.out.sz; omega) (by have h_ := HB.out.i0; omega) HB.out.fr1 HB.out.i1).mono ?_
       rintro e w2 ⟨rfl, v2, K2_⟩
       have K2 := Aside0.mk K2_
       clear K2_
       obtain ⟨o2, ho2⟩ : ∃ o2, o2 = endW text out line fr i := ⟨_, rfl⟩
       rw [← ho2] at K2 HH
       have hl2 := endW_len text out line fr i
       rw [← ho2] at hl2
       have HLN := Aside0.mk hl2
       obtain ⟨ys, hys⟩ : ∃ ys, ys = o2 ++ [(cutW text i (i + 1), line)] := ⟨_, rfl⟩
       rw [← hys] at HH
       have HYS := Aside0.mk hys
       clear hys ho2 hl2
       have B1 := Aside0.mk (bD_ K2.out.t1)
       have B3 := Aside0.mk (bD_ K2.out.t3)
       have B4 := Aside0.mk (bD_ K2.out.t4)
       have B5 := Aside0.mk (bD_ K2.out.t5)
       have c3 := (blk_cell K2.out.t3 0).trans rfl
       have c4 := (blk_cell K2.out.t4 0).trans rfl
       have c1 := (blk_cell K2.out.t1 0).trans rfl
       have HSZ : Aside0 (W.heap.size + 4 ≤ w2.drew.heap.size) := ⟨by have h_ := blk_lt K2.out.t5; show W.heap.size + 4 ≤ w2.heap.size; omega⟩
       have HROW : Aside0 (Kd.R kW 113 w2.drew (W.heap.size + 4) (fun k => W.heap.size + 4 ≤ k) v2 o2) := ⟨K2.out.row⟩
       have HLEN : Aside0 (o2.length ≤ 100000) := ⟨by have h_ := HB.out.len; have h2_ := HB.out.i1; have h3_ := HB.out.sz; have h4_ := HLN.out; omega⟩
       have q4 : (i ≤ wrap64 (i + 1)) = True := eq_true (by rw [HW.out]; omega)
       have q5 : (wrap64 (i + 1) ≤ (text.size : Int)) = True := eq_true (by rw [HW.out]; have h_ := HI1.out; omega)
       go_upto_region 16 with fail
       refine start_ (n := 11) (S := fun w' => w'.cell? ⟨W.heap.size + 1, 0, none⟩ = some v2 ∧ w'.cell? ⟨W.heap.size, 0, none⟩ = some (.string text) ∧ w'.cell? ⟨W.heap.size + 1 + 1, 0, none⟩ = some (.int .i64 line)) (ds := [10]) #[false, false, false, false, false, false, false, false, false, false, false] (by kernel_rfl) rfl rfl ⟨c3, c1, c4⟩ (fun hHeld => ?_)
       refine pure_ (i := 2) (N := some 83) (v := ?_) (a' := ?_) #[false, false, true, false, false, false, false, false, false, false, false] rfl rfl (by kernel_rfl) (fun _ _ _ h => h) (Or.inl ⟨by rfl, ?_⟩) ?_ ?_
       rotate_left
       ·
        intro w'
        go_simp
        with_reducible rfl
       rotate_left
       ·
        simp only [Act.put, sA_, sZ_, sS_, i64_w, i32_w]
        rfl
       refine pure_ (i := 3) (N := some 84) (v := ?_) (a' := ?_) #[false, false, true, true, false, false, false, false, false, false, false] rfl rfl (by kernel_rfl) (fun _ _ _ h => h) (Or.inl ⟨by rfl, ?_⟩) ?_ ?_
       rotate_left
       ·
        intro w'
        go_simp
        with_reducible rfl
       rotate_left
       ·
        simp only [Act.put, sA_, sZ_, sS_, i64_w, i32_w]
        rfl
       refine pure_ (i := 4) (N := some 85) (v := ?_) (a' := ?_) #[false, false, true, true, true, false, false, false, false, false, false] rfl rfl (by kernel_rfl) (fun _ _ _ h => h) (Or.inl ⟨by rfl, ?_⟩) ?_ ?_
       rotate_left
       ·
        intro w'
        go_simp
        with_reducible rfl
       rotate_left
       ·
        simp only [Act.put, sA_, sZ_, sS_, i64_w, i32_w]
        rfl
       refine take_ (i := 0) (N := some 81) (v := ?_) (a' := ?_) #[true, false, true, true, true, false, false, false, false, false, false] rfl rfl (by kernel_rfl) (fun _ _ _ h => h) (Or.inl ⟨by rfl, ?_⟩) hHeld ?_ ?_
       rotate_left
       ·
        rintro w' ⟨s0, s1, s2⟩
        go_simp
        with_reducible rfl
       rotate_left
       ·
        simp only [Act.put, sA_, sZ_, sS_, i64_w, i32_w]
        rfl
       refine take_ (i := 1) (N := some 82) (v := ?_) (a' := ?_) #[true, true, true, true, true, false, false, false, false, false, false] rfl rfl (by kernel_rfl) (fun _ _ _ h => h) (Or.inl ⟨by rfl, ?_⟩) hHeld ?_ ?_
       rotate_left
       ·
        rintro w' ⟨s0, s1, s2⟩
        go_simp
        with_reducible rfl
       rotate_left
       ·
        simp only [Act.put, sA_, sZ_, sS_, i64_w, i32_w]
        rfl
       refine pure_ (i := 5) (N := some 86) (v := ?_) (a' := ?_) #[true, true, true, true, true, true, false, false, false, false, false] rfl rfl (by kernel_rfl) (fun _ _ _ h => h) (Or.inl ⟨by rfl, ?_⟩) ?_ ?_
       rotate_left
       ·
        intro w'
        go_simp
        with_reducible rfl
       rotate_left
       ·
        simp only [Act.put, sA_, sZ_, sS_, i64_w, i32_w]
        rfl
       refine take_ (i := 6) (N := some 87) (v := ?_) (a' := ?_) #[true, true, true, true, true, true, true, false, false, false, false] rfl rfl (by kernel_rfl) (fun _ _ _ h => h) (Or.inl ⟨by rfl, ?_⟩) hHeld ?_ ?_
       rotate_left
       ·
        rintro w' ⟨s0, s1, s2⟩
        go_simp
        with_reducible rfl
       rotate_left
       ·
        simp only [Act.put, sA_, sZ_, sS_, i64_w, i32_w]
        rfl
       refine pure_ (i := 7) (N := some 88) (v := ?_) (a' := ?_) #[true, true, true, true, true, true, true, true, false, false, false] rfl rfl (by kernel_rfl) (fun _ _ _ h => h) (Or.inl ⟨by rfl, ?_⟩) ?_ ?_
       rotate_left
       ·
        intro w'
        go_simp
        with_reducible rfl
       rotate_left
       ·
        simp only [Act.put, sA_, sZ_, sS_, i64_w, i32_w]
        rfl
       refine one_ (i := 8) (N := some 89) #[true, true, true, true, true, true, true, true, true, false, false] rfl rfl (by kernel_rfl) (by decide) (fun K hK => ?_)
       refine value_ (w1 := ?_) (v := ?_) (by rfl) rfl ?_ ?_
       rotate_left 2
       ·
        go_simp
        constructor
        ·
         rfl
        ·
         rfl
       refine hK.out _ _ ⟨((Lib.cell_of_heap (bA_ B3.out _) 0).trans rfl), ((Lib.cell_of_heap (bA_ B1.out _) 0).trans rfl), ((Lib.cell_of_heap (bA_ B4.out _) 0).trans rfl)⟩ (fun hHeld => ?_)
       clear hK K
       refine norm_ (a' := ?_) ?_ ?_
       rotate_left
       ·
        show Act.put _ (some 89) _ = _
        simp only [Act.put, sA_, sZ_, sS_, i64_w, i32_w]
        rfl
       refine one_ (i := 9) (N := some 90) #[true, true, true, true, true, true, true, true, true, true, false] rfl rfl (by kernel_rfl) (by decide) (fun K hK => ?_)
       refine Kd.R_append_step kW (w0 := w2.drew) (W.heap.size + 4) (by rfl) (.tmp 81) (.tmp 89) 92 113 (.agg #[.string ⟨#[]⟩, .int .i64 0]) 24 rfl Tryz.underlying92 infoWord_ rfl (by decide) (by omega) v2 o2 (text.extract i.toNat (wrap64 (i + 1)).toNat, line) [.string (text.extract i.toNat (wrap64 (i + 1)).toNat), .int .i64 line] (fun k => W.heap.size + 4 ≤ k) (fun _ => False) (by rfl) (by rfl) (kW_mk _ _ _ (text.extract i.toNat (wrap64 (i + 1)).toNat, line)) (fun _ hk => hk.elim) (fun k hk => Nat.le_trans HSZ.out hk) HROW.out (Below.refl _ _) HSZ.out (by have h_ := HLEN.out; omega) ?_
       intro v1 w1 r1 hb1 _ _
       rw [show text.extract i.toNat (wrap64 (i + 1)).toNat = cutW text i (i + 1) from by rw [HW.out]; rfl, ← HYS.out] at r1
       obtain ⟨A1, cap1, rfl⟩ := Kd.R_slice r1
       have HR1 := Aside0.mk r1
       have HB1 := Aside0.mk hb1
       clear r1 hb1
       refine hK.out _ _ ⟨((Lib.cell_of_heap (blk_low B3.out HB1.out (by omega)) 0).trans rfl), ((Lib.cell_of_heap (blk_low B1.out HB1.out (by omega)) 0).trans rfl), ((Lib.cell_of_heap (blk_low B4.out HB1.out (by omega)) 0).trans rfl)⟩ (fun hHeld => ?_)
       clear hK K
       refine norm_ (a' := ?_) ?_ ?_
       rotate_left
       ·
        show Act.put _ (some 90) _ = _
        simp only [Act.put, sA_, sZ_, sS_, i64_w, i32_w]
        rfl
       refine last_ (i := 10) (N := none) #[true, true, true, true, true, true, true, true, true, true, true] rfl rfl (by kernel_rfl) (by decide) (fun K hK => ?_)
       have f3 := blk_frozen (blk_low B3.out HB1.out (by omega)) 0
       have i3 := (blk_cell (blk_low B3.out HB1.out (by omega)) 0).trans rfl
       refine skip_ (w1 := ?_) (by rfl) rfl ?_ ?_
       rotate_left
       ·
        go_simp
        rfl
       refine hK.out _ _ ?_
       clear hK K
       refine done_ (by kernel_rfl) ?_
       have K3 := Aside0.mk (K2.out.drew_.put HR1.out HB1.out)
       go_wp2
       rw [HW.out]
       have HB2 : Aside0 (WB text (ys) (line) (-1) (i + 1)) := ⟨⟨HB.out.sz, by have h_ := HB.out.i0; have h2_ := HI1.out; omega, by have h_ := HB.out.i0; have h2_ := HI1.out; omega, by have h_ := HB.out.i0; have h2_ := HB.out.fr1; omega, by have h_ := HB.out.ln0; omega, by have h_ := HB.out.ln1; omega, by have h_ := HB.out.len; have h2_ := HLN.out; rw [HYS.out]; simp only [List.length_append, List.length_cons, List.length_nil]; omega⟩⟩
       go_roundg k1
       case measure => have h_ := HQ.out; omega
       case rel => exact ⟨_, _, _, _, _, rfl, HH, ⟨by have h_ := HQ.out; omega⟩, K3, HB2⟩
      ·
       have e123 : (bt text i == 123) = false := beq_eq_false_iff_ne.mpr (by rw [hc]; decide)
       have e125 : (bt text i == 125) = true := beq_iff_eq.mpr hc
       have e59 : (bt text i == 59) = false := beq_eq_false_iff_ne.mpr (by rw [hc]; decide)
       clear hc hc47
       have HH := Aside0.mk H
       clear H
       have g1 := (blk_cell HI.out.t1 0).trans rfl
       clear hi
       go_wp2_with fail
       refine (words_end W wr text out line fr i v HI.out (by have h_ := HB.out.len; have h2_ := HB.out.i1; have h3_ := HB.out.sz; omega) (by have h_ := HB.out.i0; omega) HB.out.fr1 HB.out.i1).mono ?_
       rintro e w2 ⟨rfl, v2, K2_⟩
       have K2 := Aside0.mk K2_
       clear K2_
       obtain ⟨o2, ho2⟩ : ∃ o2, o2 = endW text out line fr i := ⟨_, rfl⟩
       rw [← ho2] at K2 HH
       have hl2 := endW_len text out line fr i
       rw [← ho2] at hl2
       have HLN := Aside0.mk hl2
       obtain ⟨ys, hys⟩ : ∃ ys, ys = o2 ++ [(cutW text i (i + 1), line)] := ⟨_, rfl⟩
       rw [← hys] at HH
       have HYS := Aside0.mk hys
       clear hys ho2 hl2
       have B1 := Aside0.mk (bD_ K2.out.t1)
       have B3 := Aside0.mk (bD_ K2.out.t3)
       have B4 := Aside0.mk (bD_ K2.out.t4)
       have B5 := Aside0.mk (bD_ K2.out.t5)
       have c3 := (blk_cell K2.out.t3 0).trans rfl
       have c4 := (blk_cell K2.out.t4 0).trans rfl
       have c1 := (blk_cell K2.out.t1 0).trans rfl
       have HSZ : Aside0 (W.heap.size + 4 ≤ w2.drew.heap.size) := ⟨by have h_ := blk_lt K2.out.t5; show W.heap.size + 4 ≤ w2.heap.size; omega⟩
       have HROW : Aside0 (Kd.R kW 113 w2.drew (W.heap.size + 4) (fun k => W.heap.size + 4 ≤ k) v2 o2) := ⟨K2.out.row⟩
       have HLEN : Aside0 (o2.length ≤ 100000) := ⟨by have h_ := HB.out.len; have h2_ := HB.out.i1; have h3_ := HB.out.sz; have h4_ := HLN.out; omega⟩
       have q4 : (i ≤ wrap64 (i + 1)) = True := eq_true (by rw [HW.out]; omega)
       have q5 : (wrap64 (i + 1) ≤ (text.size : Int)) = True := eq_true (by rw [HW.out]; have h_ := HI1.out; omega)
       go_upto_region 16 with fail
       refine start_ (n := 11) (S := fun w' => w'.cell? ⟨W.heap.size + 1, 0, none⟩ = some v2 ∧ w'.cell? ⟨W.heap.size, 0, none⟩ = some (.string text) ∧ w'.cell? ⟨W.heap.size + 1 + 1, 0, none⟩ = some (.int .i64 line)) (ds := [10]) #[false, false, false, false, false, false, false, false, false, false, false] (by kernel_rfl) rfl rfl ⟨c3, c1, c4⟩ (fun hHeld => ?_)
       refine pure_ (i := 2) (N := some 83) (v := ?_) (a' := ?_) #[false, false, true, false, false, false, false, false, false, false, false] rfl rfl (by kernel_rfl) (fun _ _ _ h => h) (Or.inl ⟨by rfl, ?_⟩) ?_ ?_
       rotate_left
       ·
        intro w'
        go_simp
        with_reducible rfl
       rotate_left
       ·
        simp only [Act.put, sA_, sZ_, sS_, i64_w, i32_w]
        rfl
       refine pure_ (i := 3) (N := some 84) (v := ?_) (a' := ?_) #[false, false, true, true, false, false, false, false, false, false, false] rfl rfl (by kernel_rfl) (fun _ _ _ h => h) (Or.inl ⟨by rfl, ?_⟩) ?_ ?_
       rotate_left
       ·
        intro w'
        go_simp
        with_reducible rfl
       rotate_left
       ·
        simp only [Act.put, sA_, sZ_, sS_, i64_w, i32_w]
        rfl
       refine pure_ (i := 4) (N := some 85) (v := ?_) (a' := ?_) #[false, false, true, true, true, false, false, false, false, false, false] rfl rfl (by kernel_rfl) (fun _ _ _ h => h) (Or.inl ⟨by rfl, ?_⟩) ?_ ?_
       rotate_left
       ·
        intro w'
        go_simp
        with_reducible rfl
       rotate_left
       ·
        simp only [Act.put, sA_, sZ_, sS_, i64_w, i32_w]
        rfl
       refine take_ (i := 0) (N := some 81) (v := ?_) (a' := ?_) #[true, false, true, true, true, false, false, false, false, false, false] rfl rfl (by kernel_rfl) (fun _ _ _ h => h) (Or.inl ⟨by rfl, ?_⟩) hHeld ?_ ?_
       rotate_left
       ·
        rintro w' ⟨s0, s1, s2⟩
        go_simp
        with_reducible rfl
       rotate_left
       ·
        simp only [Act.put, sA_, sZ_, sS_, i64_w, i32_w]
        rfl
       refine take_ (i := 1) (N := some 82) (v := ?_) (a' := ?_) #[true, true, true, true, true, false, false, false, false, false, false] rfl rfl (by kernel_rfl) (fun _ _ _ h => h) (Or.inl ⟨by rfl, ?_⟩) hHeld ?_ ?_
       rotate_left
       ·
        rintro w' ⟨s0, s1, s2⟩
        go_simp
        with_reducible rfl
       rotate_left
       ·
        simp only [Act.put, sA_, sZ_, sS_, i64_w, i32_w]
        rfl
       refine pure_ (i := 5) (N := some 86) (v := ?_) (a' := ?_) #[true, true, true, true, true, true, false, false, false, false, false] rfl rfl (by kernel_rfl) (fun _ _ _ h => h) (Or.inl ⟨by rfl, ?_⟩) ?_ ?_
       rotate_left
       ·
        intro w'
        go_simp
        with_reducible rfl
       rotate_left
       ·
        simp only [Act.put, sA_, sZ_, sS_, i64_w, i32_w]
        rfl
       refine take_ (i := 6) (N := some 87) (v := ?_) (a' := ?_) #[true, true, true, true, true, true, true, false, false, false, false] rfl rfl (by kernel_rfl) (fun _ _ _ h => h) (Or.inl ⟨by rfl, ?_⟩) hHeld ?_ ?_
       rotate_left
       ·
        rintro w' ⟨s0, s1, s2⟩
        go_simp
        with_reducible rfl
       rotate_left
       ·
        simp only [Act.put, sA_, sZ_, sS_, i64_w, i32_w]
        rfl
       refine pure_ (i := 7) (N := some 88) (v := ?_) (a' := ?_) #[true, true, true, true, true, true, true, true, false, false, false] rfl rfl (by kernel_rfl) (fun _ _ _ h => h) (Or.inl ⟨by rfl, ?_⟩) ?_ ?_
       rotate_left
       ·
        intro w'
        go_simp
        with_reducible rfl
       rotate_left
       ·
        simp only [Act.put, sA_, sZ_, sS_, i64_w, i32_w]
        rfl
       refine one_ (i := 8) (N := some 89) #[true, true, true, true, true, true, true, true, true, false, false] rfl rfl (by kernel_rfl) (by decide) (fun K hK => ?_)
       refine value_ (w1 := ?_) (v := ?_) (by rfl) rfl ?_ ?_
       rotate_left 2
       ·
        go_simp
        constructor
        ·
         rfl
        ·
         rfl
       refine hK.out _ _ ⟨((Lib.cell_of_heap (bA_ B3.out _) 0).trans rfl), ((Lib.cell_of_heap (bA_ B1.out _) 0).trans rfl), ((Lib.cell_of_heap (bA_ B4.out _) 0).trans rfl)⟩ (fun hHeld => ?_)
       clear hK K
       refine norm_ (a' := ?_) ?_ ?_
       rotate_left
       ·
        show Act.put _ (some 89) _ = _
        simp only [Act.put, sA_, sZ_, sS_, i64_w, i32_w]
        rfl
       refine one_ (i := 9) (N := some 90) #[true, true, true, true, true, true, true, true, true, true, false] rfl rfl (by kernel_rfl) (by decide) (fun K hK => ?_)
       refine Kd.R_append_step kW (w0 := w2.drew) (W.heap.size + 4) (by rfl) (.tmp 81) (.tmp 89) 92 113 (.agg #[.string ⟨#[]⟩, .int .i64 0]) 24 rfl Tryz.underlying92 infoWord_ rfl (by decide) (by omega) v2 o2 (text.extract i.toNat (wrap64 (i + 1)).toNat, line) [.string (text.extract i.toNat (wrap64 (i + 1)).toNat), .int .i64 line] (fun k => W.heap.size + 4 ≤ k) (fun _ => False) (by rfl) (by rfl) (kW_mk _ _ _ (text.extract i.toNat (wrap64 (i + 1)).toNat, line)) (fun _ hk => hk.elim) (fun k hk => Nat.le_trans HSZ.out hk) HROW.out (Below.refl _ _) HSZ.out (by have h_ := HLEN.out; omega) ?_
       intro v1 w1 r1 hb1 _ _
       rw [show text.extract i.toNat (wrap64 (i + 1)).toNat = cutW text i (i + 1) from by rw [HW.out]; rfl, ← HYS.out] at r1
       obtain ⟨A1, cap1, rfl⟩ := Kd.R_slice r1
       have HR1 := Aside0.mk r1
       have HB1 := Aside0.mk hb1
       clear r1 hb1
       refine hK.out _ _ ⟨((Lib.cell_of_heap (blk_low B3.out HB1.out (by omega)) 0).trans rfl), ((Lib.cell_of_heap (blk_low B1.out HB1.out (by omega)) 0).trans rfl), ((Lib.cell_of_heap (blk_low B4.out HB1.out (by omega)) 0).trans rfl)⟩ (fun hHeld => ?_)
       clear hK K
       refine norm_ (a' := ?_) ?_ ?_
       rotate_left
       ·
        show Act.put _ (some 90) _ = _
        simp only [Act.put, sA_, sZ_, sS_, i64_w, i32_w]
        rfl
       refine last_ (i := 10) (N := none) #[true, true, true, true, true, true, true, true, true, true, true] rfl rfl (by kernel_rfl) (by decide) (fun K hK => ?_)
       have f3 := blk_frozen (blk_low B3.out HB1.out (by omega)) 0
       have i3 := (blk_cell (blk_low B3.out HB1.out (by omega)) 0).trans rfl
       refine skip_ (w1 := ?_) (by rfl) rfl ?_ ?_
       rotate_left
       ·
        go_simp
        rfl
       refine hK.out _ _ ?_
       clear hK K
       refine done_ (by kernel_rfl) ?_
       have K3 := Aside0.mk (K2.out.drew_.put HR1.out HB1.out)
       go_wp2
       rw [HW.out]
       have HB2 : Aside0 (WB text (ys) (line) (-1) (i + 1)) := ⟨⟨HB.out.sz, by have h_ := HB.out.i0; have h2_ := HI1.out; omega, by have h_ := HB.out.i0; have h2_ := HI1.out; omega, by have h_ := HB.out.i0; have h2_ := HB.out.fr1; omega, by have h_ := HB.out.ln0; omega, by have h_ := HB.out.ln1; omega, by have h_ := HB.out.len; have h2_ := HLN.out; rw [HYS.out]; simp only [List.length_append, List.length_cons, List.length_nil]; omega⟩⟩
       go_roundg k1
       case measure => have h_ := HQ.out; omega
       case rel => exact ⟨_, _, _, _, _, rfl, HH, ⟨by have h_ := HQ.out; omega⟩, K3, HB2⟩
      ·
       have e123 : (bt text i == 123) = false := beq_eq_false_iff_ne.mpr (by rw [hc]; decide)
       have e125 : (bt text i == 125) = false := beq_eq_false_iff_ne.mpr (by rw [hc]; decide)
       have e59 : (bt text i == 59) = true := beq_iff_eq.mpr hc
       clear hc hc47
       have HH := Aside0.mk H
       clear H
       have g1 := (blk_cell HI.out.t1 0).trans rfl
       clear hi
       go_wp2_with fail
       refine (words_end W wr text out line fr i v HI.out (by have h_ := HB.out.len; have h2_ := HB.out.i1; have h3_ := HB.out.sz; omega) (by have h_ := HB.out.i0; omega) HB.out.fr1 HB.out.i1).mono ?_
       rintro e w2 ⟨rfl, v2, K2_⟩
       have K2 := Aside0.mk K2_
       clear K2_
       obtain ⟨o2, ho2⟩ : ∃ o2, o2 = endW text out line fr i := ⟨_, rfl⟩
       rw [← ho2] at K2 HH
       have hl2 := endW_len text out line fr i
       rw [← ho2] at hl2
       have HLN := Aside0.mk hl2
       obtain ⟨ys, hys⟩ : ∃ ys, ys = o2 ++ [(cutW text i (i + 1), line)] := ⟨_, rfl⟩
       rw [← hys] at HH
       have HYS := Aside0.mk hys
       clear hys ho2 hl2
       have B1 := Aside0.mk (bD_ K2.out.t1)
       have B3 := Aside0.mk (bD_ K2.out.t3)
       have B4 := Aside0.mk (bD_ K2.out.t4)
       have B5 := Aside0.mk (bD_ K2.out.t5)
       have c3 := (blk_cell K2.out.t3 0).trans rfl
       have c4 := (blk_cell K2.out.t4 0).trans rfl
       have c1 := (blk_cell K2.out.t1 0).trans rfl
       have HSZ : Aside0 (W.heap.size + 4 ≤ w2.drew.heap.size) := ⟨by have h_ := blk_lt K2.out.t5; show W.heap.size + 4 ≤ w2.heap.size; omega⟩
       have HROW : Aside0 (Kd.R kW 113 w2.drew (W.heap.size + 4) (fun k => W.heap.size + 4 ≤ k) v2 o2) := ⟨K2.out.row⟩
       have HLEN : Aside0 (o2.length ≤ 100000) := ⟨by have h_ := HB.out.len; have h2_ := HB.out.i1; have h3_ := HB.out.sz; have h4_ := HLN.out; omega⟩
       have q4 : (i ≤ wrap64 (i + 1)) = True := eq_true (by rw [HW.out]; omega)
       have q5 : (wrap64 (i + 1) ≤ (text.size : Int)) = True := eq_true (by rw [HW.out]; have h_ := HI1.out; omega)
       go_upto_region 16 with fail
       refine start_ (n := 11) (S := fun w' => w'.cell? ⟨W.heap.size + 1, 0, none⟩ = some v2 ∧ w'.cell? ⟨W.heap.size, 0, none⟩ = some (.string text) ∧ w'.cell? ⟨W.heap.size + 1 + 1, 0, none⟩ = some (.int .i64 line)) (ds := [10]) #[false, false, false, false, false, false, false, false, false, false, false] (by kernel_rfl) rfl rfl ⟨c3, c1, c4⟩ (fun hHeld => ?_)
       refine pure_ (i := 2) (N := some 83) (v := ?_) (a' := ?_) #[false, false, true, false, false, false, false, false, false, false, false] rfl rfl (by kernel_rfl) (fun _ _ _ h => h) (Or.inl ⟨by rfl, ?_⟩) ?_ ?_
       rotate_left
       ·
        intro w'
        go_simp
        with_reducible rfl
       rotate_left
       ·
        simp only [Act.put, sA_, sZ_, sS_, i64_w, i32_w]
        rfl
       refine pure_ (i := 3) (N := some 84) (v := ?_) (a' := ?_) #[false, false, true, true, false, false, false, false, false, false, false] rfl rfl (by kernel_rfl) (fun _ _ _ h => h) (Or.inl ⟨by rfl, ?_⟩) ?_ ?_
       rotate_left
       ·
        intro w'
        go_simp
        with_reducible rfl
       rotate_left
       ·
        simp only [Act.put, sA_, sZ_, sS_, i64_w, i32_w]
        rfl
       refine pure_ (i := 4) (N := some 85) (v := ?_) (a' := ?_) #[false, false, true, true, true, false, false, false, false, false, false] rfl rfl (by kernel_rfl) (fun _ _ _ h => h) (Or.inl ⟨by rfl, ?_⟩) ?_ ?_
       rotate_left
       ·
        intro w'
        go_simp
        with_reducible rfl
       rotate_left
       ·
        simp only [Act.put, sA_, sZ_, sS_, i64_w, i32_w]
        rfl
       refine take_ (i := 0) (N := some 81) (v := ?_) (a' := ?_) #[true, false, true, true, true, false, false, false, false, false, false] rfl rfl (by kernel_rfl) (fun _ _ _ h => h) (Or.inl ⟨by rfl, ?_⟩) hHeld ?_ ?_
       rotate_left
       ·
        rintro w' ⟨s0, s1, s2⟩
        go_simp
        with_reducible rfl
       rotate_left
       ·
        simp only [Act.put, sA_, sZ_, sS_, i64_w, i32_w]
        rfl
       refine take_ (i := 1) (N := some 82) (v := ?_) (a' := ?_) #[true, true, true, true, true, false, false, false, false, false, false] rfl rfl (by kernel_rfl) (fun _ _ _ h => h) (Or.inl ⟨by rfl, ?_⟩) hHeld ?_ ?_
       rotate_left
       ·
        rintro w' ⟨s0, s1, s2⟩
        go_simp
        with_reducible rfl
       rotate_left
       ·
        simp only [Act.put, sA_, sZ_, sS_, i64_w, i32_w]
        rfl
       refine pure_ (i := 5) (N := some 86) (v := ?_) (a' := ?_) #[true, true, true, true, true, true, false, false, false, false, false] rfl rfl (by kernel_rfl) (fun _ _ _ h => h) (Or.inl ⟨by rfl, ?_⟩) ?_ ?_
       rotate_left
       ·
        intro w'
        go_simp
        with_reducible rfl
       rotate_left
       ·
        simp only [Act.put, sA_, sZ_, sS_, i64_w, i32_w]
        rfl
       refine take_ (i := 6) (N := some 87) (v := ?_) (a' := ?_) #[true, true, true, true, true, true, true, false, false, false, false] rfl rfl (by kernel_rfl) (fun _ _ _ h => h) (Or.inl ⟨by rfl, ?_⟩) hHeld ?_ ?_
       rotate_left
       ·
        rintro w' ⟨s0, s1, s2⟩
        go_simp
        with_reducible rfl
       rotate_left
       ·
        simp only [Act.put, sA_, sZ_, sS_, i64_w, i32_w]
        rfl
       refine pure_ (i := 7) (N := some 88) (v := ?_) (a' := ?_) #[true, true, true, true, true, true, true, true, false, false, false] rfl rfl (by kernel_rfl) (fun _ _ _ h => h) (Or.inl ⟨by rfl, ?_⟩) ?_ ?_
       rotate_left
       ·
        intro w'
        go_simp
        with_reducible rfl
       rotate_left
       ·
        simp only [Act.put, sA_, sZ_, sS_, i64_w, i32_w]
        rfl
       refine one_ (i := 8) (N := some 89) #[true, true, true, true, true, true, true, true, true, false, false] rfl rfl (by kernel_rfl) (by decide) (fun K hK => ?_)
       refine value_ (w1 := ?_) (v := ?_) (by rfl) rfl ?_ ?_
       rotate_left 2
       ·
        go_simp
        constructor
        ·
         rfl
        ·
         rfl
       refine hK.out _ _ ⟨((Lib.cell_of_heap (bA_ B3.out _) 0).trans rfl), ((Lib.cell_of_heap (bA_ B1.out _) 0).trans rfl), ((Lib.cell_of_heap (bA_ B4.out _) 0).trans rfl)⟩ (fun hHeld => ?_)
       clear hK K
       refine norm_ (a' := ?_) ?_ ?_
       rotate_left
       ·
        show Act.put _ (some 89) _ = _
        simp only [Act.put, sA_, sZ_, sS_, i64_w, i32_w]
        rfl
       refine one_ (i := 9) (N := some 90) #[true, true, true, true, true, true, true, true, true, true, false] rfl rfl (by kernel_rfl) (by decide) (fun K hK => ?_)
       refine Kd.R_append_step kW (w0 := w2.drew) (W.heap.size + 4) (by rfl) (.tmp 81) (.tmp 89) 92 113 (.agg #[.string ⟨#[]⟩, .int .i64 0]) 24 rfl Tryz.underlying92 infoWord_ rfl (by decide) (by omega) v2 o2 (text.extract i.toNat (wrap64 (i + 1)).toNat, line) [.string (text.extract i.toNat (wrap64 (i + 1)).toNat), .int .i64 line] (fun k => W.heap.size + 4 ≤ k) (fun _ => False) (by rfl) (by rfl) (kW_mk _ _ _ (text.extract i.toNat (wrap64 (i + 1)).toNat, line)) (fun _ hk => hk.elim) (fun k hk => Nat.le_trans HSZ.out hk) HROW.out (Below.refl _ _) HSZ.out (by have h_ := HLEN.out; omega) ?_
       intro v1 w1 r1 hb1 _ _
       rw [show text.extract i.toNat (wrap64 (i + 1)).toNat = cutW text i (i + 1) from by rw [HW.out]; rfl, ← HYS.out] at r1
       obtain ⟨A1, cap1, rfl⟩ := Kd.R_slice r1
       have HR1 := Aside0.mk r1
       have HB1 := Aside0.mk hb1
       clear r1 hb1
       refine hK.out _ _ ⟨((Lib.cell_of_heap (blk_low B3.out HB1.out (by omega)) 0).trans rfl), ((Lib.cell_of_heap (blk_low B1.out HB1.out (by omega)) 0).trans rfl), ((Lib.cell_of_heap (blk_low B4.out HB1.out (by omega)) 0).trans rfl)⟩ (fun hHeld => ?_)
       clear hK K
       refine norm_ (a' := ?_) ?_ ?_
       rotate_left
       ·
        show Act.put _ (some 90) _ = _
        simp only [Act.put, sA_, sZ_, sS_, i64_w, i32_w]
        rfl
       refine last_ (i := 10) (N := none) #[true, true, true, true, true, true, true, true, true, true, true] rfl rfl (by kernel_rfl) (by decide) (fun K hK => ?_)
       have f3 := blk_frozen (blk_low B3.out HB1.out (by omega)) 0
       have i3 := (blk_cell (blk_low B3.out HB1.out (by omega)) 0).trans rfl
       refine skip_ (w1 := ?_) (by rfl) rfl ?_ ?_
       rotate_left
       ·
        go_simp
        rfl
       refine hK.out _ _ ?_
       clear hK K
       refine done_ (by kernel_rfl) ?_
       have K3 := Aside0.mk (K2.out.drew_.put HR1.out HB1.out)
       go_wp2
       rw [HW.out]
       have HB2 : Aside0 (WB text (ys) (line) (-1) (i + 1)) := ⟨⟨HB.out.sz, by have h_ := HB.out.i0; have h2_ := HI1.out; omega, by have h_ := HB.out.i0; have h2_ := HI1.out; omega, by have h_ := HB.out.i0; have h2_ := HB.out.fr1; omega, by have h_ := HB.out.ln0; omega, by have h_ := HB.out.ln1; omega, by have h_ := HB.out.len; have h2_ := HLN.out; rw [HYS.out]; simp only [List.length_append, List.length_cons, List.length_nil]; omega⟩⟩
       go_roundg k1
       case measure => have h_ := HQ.out; omega
       case rel => exact ⟨_, _, _, _, _, rfl, HH, ⟨by have h_ := HQ.out; omega⟩, K3, HB2⟩
     rw [if_neg hb] at H
     have e123 : (bt text i == 123) = false := beq_eq_false_iff_ne.mpr (fun e_ => hb (.inl e_))
     have e125 : (bt text i == 125) = false := beq_eq_false_iff_ne.mpr (fun e_ => hb (.inr (.inl e_)))
     have e59 : (bt text i == 59) = false := beq_eq_false_iff_ne.mpr (fun e_ => hb (.inr (.inr e_)))
     clear hb hc47
     by_cases hn : fr < 0
     ·
      rw [if_pos hn] at H
      have HH := Aside0.mk H
      clear H
      have g1 := (blk_cell HI.out.t1 0).trans rfl
      have g5 : wr.cell? ⟨W.heap.size + 1 + 1 + 1, 0, none⟩ = some (.int .i64 fr) := (blk_cell HI.out.t5 0).trans rfl
      have f5 : wr.frozen? ⟨W.heap.size + 1 + 1 + 1, 0, none⟩ = false := blk_frozen HI.out.t5 0
      clear hi
      have n0 : decide (fr < 0) = true := decide_eq_true hn
      clear hn
      go_wp2
      have K3 := Aside0.mk (HI.out.from_ i)
      rw [HW.out]
      have HB2 : Aside0 (WB text (out) (line) (i) (i + 1)) := ⟨⟨HB.out.sz, by have h_ := HB.out.i0; have h2_ := HI1.out; omega, by have h_ := HB.out.i0; have h2_ := HI1.out; omega, by have h_ := HB.out.i0; have h2_ := HB.out.fr1; omega, by have h_ := HB.out.ln0; omega, by have h_ := HB.out.ln1; omega, by have h_ := HB.out.len; have h2_ := endW_len text out line fr i; omega⟩⟩
      go_roundg k1
      case measure => have h_ := HQ.out; omega
      case rel => exact ⟨_, _, _, _, _, rfl, HH, ⟨by have h_ := HQ.out; omega⟩, K3, HB2⟩
     ·
      rw [if_neg hn] at H
      have HH := Aside0.mk H
      clear H
      have g1 := (blk_cell HI.out.t1 0).trans rfl
      have g5 : wr.cell? ⟨W.heap.size + 1 + 1 + 1, 0, none⟩ = some (.int .i64 fr) := (blk_cell HI.out.t5 0).trans rfl
      have f5 : wr.frozen? ⟨W.heap.size + 1 + 1 + 1, 0, none⟩ = false := blk_frozen HI.out.t5 0
      clear hi
      have n0 : decide (fr < 0) = false := decide_eq_false hn
      clear hn
      go_wp2
      rw [HW.out]
      have HB2 : Aside0 (WB text (out) (line) (fr) (i + 1)) := ⟨⟨HB.out.sz, by have h_ := HB.out.i0; have h2_ := HI1.out; omega, by have h_ := HB.out.i0; have h2_ := HI1.out; omega, by have h_ := HB.out.i0; have h2_ := HB.out.fr1; omega, by have h_ := HB.out.ln0; omega, by have h_ := HB.out.ln1; omega, by have h_ := HB.out.len; have h2_ := endW_len text out line fr i; omega⟩⟩
      go_roundg k1
      case measure => have h_ := HQ.out; omega
      case rel => exact ⟨_, _, _, _, _, rfl, HH, ⟨by have h_ := HQ.out; omega⟩, HI, HB2⟩
   ·
    rw [if_neg hi] at H
    obtain rfl := Option.some.inj H
    have p2 : decide (i < (text.size : Int)) = false := decide_eq_false hi
    clear H
    go_wp2_with fail
    refine (words_end W wr text out line fr (text.size : Int) v HI.out (by have h_ := HB.out.len; have h2_ := HB.out.i1; have h3_ := HB.out.sz; omega) (by omega) (by have h_ := HB.out.fr1; have h2_ := HB.out.i1; omega) (Int.le_refl _)).mono ?_
    rintro e w2 ⟨rfl, v2, K2_⟩
    have K2 := Aside0.mk K2_
    clear K2_
    have d3 := (blk_cell K2.out.t3 0).trans rfl
    have d4 : w2.cell? ⟨W.heap.size + 1 + 1, 0, none⟩ = some (.int .i64 line) := (blk_cell K2.out.t4 0).trans rfl
    have HSZ : Aside0 (W.heap.size + 4 ≤ w2.heap.size) := ⟨by have h_ := blk_lt K2.out.t5; omega⟩
    have hl2 := endW_len text out line fr (text.size : Int)
    obtain ⟨o2, ho2⟩ : ∃ o2, o2 = endW text out line fr (text.size : Int) := ⟨_, rfl⟩
    rw [← ho2] at hl2 K2
    have HO2 := Aside0.mk ho2
    clear ho2
    have HLEN : Aside0 (o2.length ≤ 100000) := ⟨by have h_ := HB.out.len; have h2_ := HB.out.i1; have h3_ := HB.out.sz; omega⟩
    clear hl2 hi
    go_wp2_with (at_builtin; refine Kd.R_append kW (w0 := w2) (W.heap.size + 4) rfl (.tmp 103) (.tmp 106) 92 113 (.agg #[.string ⟨#[]⟩, .int .i64 0]) 24 rfl Tryz.underlying92 infoWord_ rfl (by decide) (by omega) v2 o2 (emptyB, line) [.string ⟨#[]⟩, .int .i64 line] (fun k => W.heap.size + 4 ≤ k) (fun _ => False) rfl rfl (kW_mk _ _ _ _) (fun _ hk => hk.elim) (fun k hk => Nat.le_trans HSZ.out hk) K2.out.row (Below.refl _ _) HSZ.out (by have h_ := HLEN.out; omega) ?_; intro v3 w3 r3 hb3 _ _; have HR3 := Aside0.mk r3; have HB3 := Aside0.mk hb3; clear r3 hb3)
    go_ret
    rw [← HO2.out]
    exact ⟨_, rfl, R_ge HR3.out (Nat.le_add_right _ _) (fun _ _ => trivial), K2.out.bel.trans (below_lower HB3.out (by omega))⟩

theorem words_calls (k : Nat) (W : World) (text : ByteArray) (r : List WD) (hf : wordsF k text = some r) :
  Calls Tryz.prog 43 #[.string text] W fun e w' => ∃ v, e = .returned v ∧ Kd.R kW 113 w' W.heap.size (fun _ => True) v r ∧ Below W.heap.size W w' := by
 unfold wordsF at hf
 by_cases h : text.size ≤ 4096
 ·
  rw [if_pos h] at hf
  exact words_walk k W text r h hf
 ·
  rw [if_neg h] at hf
  cases hf

end Go.Proofs.YtlncpbnadlpihaaGreatDoor.PAll
