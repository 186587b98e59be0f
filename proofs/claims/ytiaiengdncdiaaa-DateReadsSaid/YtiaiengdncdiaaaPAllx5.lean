-- Text by a program of this session, over what print.py prints.
import Derived.Test.YtiaiengdncdiaaaPAllx0
import Derived.Test.YtiaiengdncdiaaaPAllx1
import Derived.Test.YtiaiengdncdiaaaPAllx3
import Derived.Test.YtiaiengdncdiaaaPAllx4
namespace Go.Proofs.Ytiaiengdncdiaaa.PAll
open Go.RowKit Go.Proofs.YtiaiengdncdiaaaW.PrintWords Go.Proofs.YtiaiengdncdiaaaW.PrintLast Go.Proofs.YtiaiengdncdiaaaW.PrintMore
attribute [local go_sem] max2_int min2_int max_two min_two max_three min_three max_four min_four   -- for this text's walks alone
set_option linter.unusedVariables false
set_option linter.unusedSimpArgs false

/-! ### pantrylaw02_DateReads: function 5, by hand -/
def turnL (s : ByteArray) (i : Int) (x : Int) : List UInt8 := s.data.toList.set i.toNat (UInt8.ofNat x.toNat)
def turnB (s : ByteArray) (i : Int) (x : Int) : ByteArray := ⟨(turnL s i x).toArray⟩
def capB (s : ByteArray) (W : World) : Nat := grownCap W s.size 0 5
def bytesW (s : ByteArray) (W : World) : World := W.drew.alloc (.cells (bytesRow s (capB s W)) 5 ((bytesRow s (capB s W)).size, (bytesRow s (capB s W)).size + 1))
theorem run_bytesW (s : ByteArray) (W : World) : (convert 9 34 (.string s)).run Try.prog W = .ok (.slice (some ⟨W.heap.size, 0, none⟩) s.size (capB s W)) (bytesW s W) := run_bytes_of_string W 9 34 5 s Try.underlying9 Try.underlying34 Try.underlying5
theorem bytesW_frozen (s : ByteArray) (W : World) (j : Nat) (h : j < s.size) : (bytesW s W).frozen? ⟨W.heap.size, j, none⟩ = false := by
  unfold bytesW
  have e := World.frozen?_alloc_mark W.drew (bytesRow s (capB s W)) 5 (bytesRow s (capB s W)).size ((bytesRow s (capB s W)).size + 1) j
  have hs : j < (bytesRow s (capB s W)).size := by
    unfold bytesRow
    have : s.data.size = s.size := rfl
    simp
    omega
  rw [show W.drew.heap.size = W.heap.size from rfl] at e
  rw [e]
  simp
  omega
theorem bytesW_cell (s : ByteArray) (W : World) (j : Nat) (h : j < s.size) : (bytesW s W).cell? ⟨W.heap.size, j, none⟩ = some (.int .u8 ((s[j]'h).toNat : Int)) := by
  unfold bytesW
  have e := World.cell?_alloc_mark W.drew (bytesRow s (capB s W)) 5 ((bytesRow s (capB s W)).size, (bytesRow s (capB s W)).size + 1) j
  rw [show W.drew.heap.size = W.heap.size from rfl] at e
  rw [e, bytesRow_at s _ j (by simpa using h)]
  rfl
theorem bytesW_below (s : ByteArray) {w W : World} (h : Below w.heap.size w W) : Below w.heap.size w (bytesW s W) := by
  unfold bytesW
  exact (below_drew h).alloc (by have := h.size; simpa using this) _
theorem turnL_len (s : ByteArray) (i x : Int) : (turnL s i x).length = s.size := by simp [turnL]
theorem turn_cells (s : ByteArray) (i x : Int) (W : World) (h0 : 0 ≤ i) (h1 : i < s.size) (hx0 : 0 ≤ x) (hx1 : x ≤ 255) :
    ∀ j (hj : j < (turnL s i x).length), ((bytesW s W).setCell ⟨W.heap.size, i.toNat, none⟩ (.int .u8 x)).cell? ((⟨W.heap.size, 0, none⟩ : Addr).add j) = some (.int .u8 ((turnL s i x)[j].toNat : Int)) := by
  intro j hj0
  have hj : j < s.size := by rw [turnL_len] at hj0; exact hj0
  rw [add_plain]
  obtain ⟨n, rfl⟩ := Int.eq_ofNat_of_zero_le h0
  obtain ⟨b, rfl⟩ := Int.eq_ofNat_of_zero_le hx0
  have hn : n < s.size := by omega
  have hl : ∀ (h : j < (turnL s (n : Int) (b : Int)).length), (turnL s (n : Int) (b : Int))[j] = if n = j then UInt8.ofNat b else s[j]'hj := by
    intro h
    simp only [turnL, Int.toNat_natCast, List.getElem_set]
    split <;> rfl
  rw [hl]
  by_cases he : n = j
  · subst he
    rw [if_pos rfl]
    have e := World.cell?_setCell_same (v := .int .u8 (b : Int)) (h := bytesW_cell s W n hn)
    rw [Int.toNat_natCast, e]
    have : b < 256 := by omega
    simp
    omega
  · rw [if_neg he]
    have e := World.cell?_setCell_other (w := bytesW s W) (v := .int .u8 (b : Int)) (a := ⟨W.heap.size, n, none⟩) (b := ⟨W.heap.size, j, none⟩) (h := by intro hh; exact he (by simpa using congrArg Addr.off hh))
    rw [Int.toNat_natCast, e, bytesW_cell s W j hj]
theorem turn_back (s : ByteArray) (i x : Int) (n c m : Nat) (W : World) (hm : s.size = m) (hc : ∀ j (hj : j < (turnL s i x).length), W.cell? ((⟨n, 0, none⟩ : Addr).add j) = some (.int .u8 ((turnL s i x)[j].toNat : Int))) :
    (convert 34 9 (.slice (some ⟨n, 0, none⟩) m c)).run Try.prog W = .ok (.string (turnB s i x)) W := by
  have := run_convert_bytes_back (P := Try.prog) W 34 9 5 ⟨n, 0, none⟩ c (turnL s i x) Try.underlying34 Try.underlying5 Try.underlying9 hc
  rw [turnL_len, hm] at this
  exact this
def Turned (s : ByteArray) (i x : Int) (n c m : Nat) (w W : World) : Prop :=
  (convert 34 9 (.slice (some ⟨n, 0, none⟩) m c)).run Try.prog W = .ok (.string (turnB s i x)) W ∧ (∀ j (hj : j < (turnL s i x).length), W.cell? ((⟨n, 0, none⟩ : Addr).add j) = some (.int .u8 ((turnL s i x)[j].toNat : Int))) ∧ Below w.heap.size w W ∧ n < W.heap.size
theorem Turned.keep {s : ByteArray} {i x : Int} {n c m : Nat} {w W W' : World} (hm : s.size = m) (h : Turned s i x n c m w W) (hb : Below W.heap.size W W') : Turned s i x n c m w W' := by
  obtain ⟨h1, h2, h3, h4⟩ := h
  have hc : ∀ j (hj : j < (turnL s i x).length), W'.cell? ((⟨n, 0, none⟩ : Addr).add j) = some (.int .u8 ((turnL s i x)[j].toNat : Int)) := fun j hj => pw_cell_below hb (h2 j hj)
  exact ⟨turn_back s i x n c m W' hm hc, hc, below_then h3 h3.size hb, Nat.lt_of_lt_of_le h4 hb.size⟩
/-- How the law goes. -/
def ReadsOk (k : Nat) (s : ByteArray) (i x : Int) : Prop :=
  (0 ≤ x ∧ x ≤ 255) ∧ pantrylaw02_anchor.f k = some true ∧ (200 < s.size ∨ (s.size ≤ 200 ∧ date_Read.f k s = some (0, 14)) ∨ ∃ t, s.size = 29 ∧ date_Read.f k s = some (t, 0) ∧ 0 ≤ t ∧ t ≤ 253402300799 ∧ pantryref02_Show.f k t = some s ∧
    (i < 0 ∨ 29 ≤ i ∨ (0 ≤ i ∧ i < 29 ∧ bt s i = x) ∨ (0 ≤ i ∧ i < 29 ∧ bt s i ≠ x ∧ (date_Read.f k (turnB s i x) = some (0, 14) ∨ ∃ u, date_Read.f k (turnB s i x) = some (u, 0) ∧ u ≠ t ∧ pantryref02_Show.f k u = some (turnB s i x)))))
open Classical in
noncomputable def pantrylaw02_DateReads.f (k : Nat) (a0 : ByteArray) (a1 a2 : Int) : Option Bool := if ReadsOk k a0 a1 a2 then some true else none
set_option maxHeartbeats 4000000 in
set_option maxRecDepth 100000 in
theorem pantrylaw02_DateReads.calls (k : Nat) (a0 : ByteArray) (a1 a2 : Int) (r : Bool) (w : World) (hrW : WF w) (h : pantrylaw02_DateReads.f k a0 a1 a2 = some r) :
    Calls Try.prog 5 #[.string a0, .int .i64 a1, .int .u8 a2] w fun e w' => e = .returned (.bool r) ∧ Below w.heap.size w w' := by
  unfold pantrylaw02_DateReads.f at h
  by_cases hok : ReadsOk k a0 a1 a2
  · rw [if_pos hok] at h
    obtain rfl := Option.some.inj h
    clear h
    obtain ⟨⟨hx0, hx1⟩, hanch, hok⟩ := hok
    have HA := Aside0.mk hanch
    have HRW := Aside0.mk hrW
    clear hanch hrW
    rcases hok with hbig | ⟨hsm, hread⟩ | ⟨t, h29, hread, ht0, ht1, hshow, hcase⟩
    · have c1 : decide ((a0.size : Int) > 200) = true := decide_eq_true (by omega)
      go_enter Try.func5, Try.ntmps5
      go_wp2_with (go_at_call 10; refine (pantrylaw02_anchor.calls k true w HRW.out HA.out).mono ?_; rintro e w' ⟨rfl, hb0⟩)
      go_ret
      exact ⟨rfl, hb0⟩
    · have c1 : decide ((a0.size : Int) > 200) = false := decide_eq_false (by omega)
      have HR := Aside0.mk hread
      clear hread
      go_enter Try.func5, Try.ntmps5
      go_wp2_with (go_at_call 10; refine (pantrylaw02_anchor.calls k true w HRW.out HA.out).mono ?_; rintro e w' ⟨rfl, hb0⟩)
      go_wp2_with (go_at_call 15; refine (date_Read.calls k a0 0 14 w' (HRW.out.below hb0) HR.out).mono ?_; rintro e w'' ⟨rfl, hb1⟩)
      go_ret
      exact ⟨rfl, below_then hb0 hb0.size hb1⟩
    · have c1 : decide ((a0.size : Int) > 200) = false := decide_eq_false (by omega)
      have c2 : ((a0.size : Int) != 29) = false := by rw [h29]; rfl
      have c3 : decide (t < 0) = false := decide_eq_false (by omega)
      have c4 : decide (t > 253402300799) = false := decide_eq_false (by omega)
      have HR := Aside0.mk hread
      have HS := Aside0.mk hshow
      clear hread hshow
      rcases hcase with hi | hi | ⟨hi0, hi1, hx⟩ | ⟨hi0, hi1, hx, hlast⟩
      · have c5 : decide (a1 < 0) = true := decide_eq_true hi
        go_enter Try.func5, Try.ntmps5
        go_wp2_with (go_at_call 10; refine (pantrylaw02_anchor.calls k true w HRW.out HA.out).mono ?_; rintro e w' ⟨rfl, hb0⟩)
        go_wp2_with (go_at_call 15; refine (date_Read.calls k a0 t 0 w' (HRW.out.below hb0) HR.out).mono ?_; rintro e w'' ⟨rfl, hb1⟩)
        go_wp2_with (go_at_call 14; refine (pantryref02_Show.calls k t a0 w'' HS.out).mono ?_; rintro e w3 ⟨rfl, hb2⟩)
        go_ret
        exact ⟨rfl, below_then (below_then hb0 hb0.size hb1) (by have := hb0.size; have := hb1.size; omega) hb2⟩
      · have c5 : decide (a1 < 0) = false := decide_eq_false (by omega)
        have c6 : decide (a1 ≥ (a0.size : Int)) = true := decide_eq_true (by omega)
        go_enter Try.func5, Try.ntmps5
        go_wp2_with (go_at_call 10; refine (pantrylaw02_anchor.calls k true w HRW.out HA.out).mono ?_; rintro e w' ⟨rfl, hb0⟩)
        go_wp2_with (go_at_call 15; refine (date_Read.calls k a0 t 0 w' (HRW.out.below hb0) HR.out).mono ?_; rintro e w'' ⟨rfl, hb1⟩)
        go_wp2_with (go_at_call 14; refine (pantryref02_Show.calls k t a0 w'' HS.out).mono ?_; rintro e w3 ⟨rfl, hb2⟩)
        go_ret
        exact ⟨rfl, below_then (below_then hb0 hb0.size hb1) (by have := hb0.size; have := hb1.size; omega) hb2⟩
      · have c5 : decide (a1 < 0) = false := decide_eq_false (by omega)
        have c6 : decide (a1 ≥ (a0.size : Int)) = false := decide_eq_false (by omega)
        have c7 : (bt a0 a1 == a2) = true := beq_iff_eq.mpr hx
        have p5 : (0 ≤ (a1 : Int)) = True := eq_true hi0
        have q5 : (a1 < (a0.size : Int)) = True := eq_true (by omega)
        have hx5 := bt_at a0 a1
        go_enter Try.func5, Try.ntmps5
        go_wp2_with (go_at_call 10; refine (pantrylaw02_anchor.calls k true w HRW.out HA.out).mono ?_; rintro e w' ⟨rfl, hb0⟩)
        go_wp2_with (go_at_call 15; refine (date_Read.calls k a0 t 0 w' (HRW.out.below hb0) HR.out).mono ?_; rintro e w'' ⟨rfl, hb1⟩)
        go_wp2_with (go_at_call 14; refine (pantryref02_Show.calls k t a0 w'' HS.out).mono ?_; rintro e w3 ⟨rfl, hb2⟩)
        go_ret
        exact ⟨rfl, below_then (below_then hb0 hb0.size hb1) (by have := hb0.size; have := hb1.size; omega) hb2⟩
      · have c5 : decide (a1 < 0) = false := decide_eq_false (by omega)
        have c6 : decide (a1 ≥ (a0.size : Int)) = false := decide_eq_false (by omega)
        have c7 : (bt a0 a1 == a2) = false := beq_eq_false_iff_ne.mpr hx
        have kb := run_bytesW a0
        have kf : ∀ W, (bytesW a0 W).frozen? ⟨W.heap.size, a1.toNat, none⟩ = false := fun W => bytesW_frozen a0 W _ (by omega)
        have kc : ∀ W, (bytesW a0 W).cell? ⟨W.heap.size, a1.toNat, none⟩ = some (.int .u8 (bt a0 a1)) := fun W => by rw [bytesW_cell a0 W _ (by omega), bt_at]
        have p5 : (0 ≤ (a1 : Int)) = True := eq_true hi0
        have q5 : (a1 < (a0.size : Int)) = True := eq_true (by omega)
        have hx5 := bt_at a0 a1
        go_enter Try.func5, Try.ntmps5
        go_wp2_with (go_at_call 10; refine (pantrylaw02_anchor.calls k true w HRW.out HA.out).mono ?_; rintro e w' ⟨rfl, hb0⟩)
        go_wp2_with (go_at_call 15; refine (date_Read.calls k a0 t 0 w' (HRW.out.below hb0) HR.out).mono ?_; rintro e w'' ⟨rfl, hb1⟩)
        go_wp2_with (go_at_call 14; refine (pantryref02_Show.calls k t a0 w'' HS.out).mono ?_; rintro e w3 ⟨rfl, hb2⟩)
        obtain ⟨W4, hW4⟩ : ∃ W4, W4 = (bytesW a0 w3).setCell ⟨w3.heap.size, a1.toNat, none⟩ (.int .u8 a2) := ⟨_, rfl⟩
        have hb4 : Below w.heap.size w w3 := below_then (below_then hb0 hb0.size hb1) (by have := hb0.size; have := hb1.size; omega) hb2
        have hsz3 := hb4.size
        have hb5 : Below w.heap.size w W4 := by rw [hW4]; exact (bytesW_below a0 hb4).setCell hsz3 _
        have hc4 : ∀ j (hj : j < (turnL a0 a1 a2).length), W4.cell? ((⟨w3.heap.size, 0, none⟩ : Addr).add j) = some (.int .u8 ((turnL a0 a1 a2)[j].toNat : Int)) := by rw [hW4]; exact turn_cells a0 a1 a2 w3 hi0 (by omega) hx0 hx1
        have hlt4 : w3.heap.size < W4.heap.size := by rw [hW4]; unfold bytesW; simp [World.setCell]
        rw [← hW4]
        clear hW4 kb kf kc
        rw [turn_back a0 a1 a2 w3.heap.size (capB a0 w3) 29 W4 h29 hc4]
        have HL := Aside0.mk hlast
        clear hlast
        rcases HL.out with hl | ⟨u, hl, hne, hsh⟩
        · have HU := Aside0.mk hl
          clear hl HL
          go_wp2_with (go_at_call 15; refine (date_Read.calls k (turnB a0 a1 a2) 0 14 W4 (HRW.out.below hb5) HU.out).mono ?_; rintro e w5 ⟨rfl, hb6⟩)
          go_quiet (fail)
          go_wp2
          go_ret
          exact ⟨rfl, pw_below_drewN (below_then hb5 hb5.size hb6) _⟩
        · have HU := Aside0.mk hl
          have HV := Aside0.mk hsh
          have c8 : (u != t) = true := bne_iff_ne.mpr hne
          clear hl hsh hne HL
          go_wp2_with (go_at_call 15; refine (date_Read.calls k (turnB a0 a1 a2) u 0 W4 (HRW.out.below hb5) HU.out).mono ?_; rintro e w5 ⟨rfl, hb6⟩)
          have S5 : Turned a0 a1 a2 w3.heap.size (capB a0 w3) 29 w w5 := Turned.keep h29 ⟨turn_back a0 a1 a2 w3.heap.size (capB a0 w3) 29 W4 h29 hc4, hc4, hb5, hlt4⟩ hb6
          have S5d := Turned.keep h29 S5 (below_drew (Below.refl _ _))
          refine wp_region_held_drew (S := (fun W => (convert 34 9 (.slice (some ⟨w3.heap.size, 0, none⟩) 29 (capB a0 w3))).run Try.prog W = .ok (.string (turnB a0 a1 a2)) W ∧ Turned a0 a1 a2 w3.heap.size (capB a0 w3) 29 w W)) (by kernel_rfl) ⟨S5d.1, S5d⟩ (fun hHeld => ?_)
          refine wpAnyH_take (i := 0) (oi := _) (v := ?_) (by simp only [List.getElem?_toArray, List.getElem?_cons_succ, List.getElem?_cons_zero]; rfl) (by kernel_rfl) (by kernel_rfl) (by kernel_rfl) (by intro _ _ _ h; exact h) (Or.inl ⟨by rfl, ?_⟩) (by assumption) ?_
          rotate_left
          · intro w hSw; go_simp; try (with_reducible rfl)
          simp only [Act.put, List.setIfInBounds_toArray, List.set_cons_zero, List.set_cons_succ]
          refine wpAnyH_take (i := 1) (oi := _) (v := ?_) (by simp only [List.getElem?_toArray, List.getElem?_cons_succ, List.getElem?_cons_zero]; rfl) (by kernel_rfl) (by kernel_rfl) (by kernel_rfl) (by intro _ _ _ h; exact h) (Or.inl ⟨by rfl, ?_⟩) (by assumption) ?_
          rotate_left
          · intro w hSw; go_simp; try (with_reducible rfl)
          simp only [Act.put, List.setIfInBounds_toArray, List.set_cons_zero, List.set_cons_succ]
          refine wpAnyH_take (i := 2) (oi := _) (v := ?_) (by simp only [List.getElem?_toArray, List.getElem?_cons_succ, List.getElem?_cons_zero]; rfl) (by kernel_rfl) (by kernel_rfl) (by kernel_rfl) (by intro _ _ _ h; exact h) (Or.inl ⟨by rfl, ?_⟩) (by assumption) ?_
          rotate_left
          · intro w hSw; go_simp; try (with_reducible rfl)
          simp only [Act.put, List.setIfInBounds_toArray, List.set_cons_zero, List.set_cons_succ]
          refine wpAnyH_take (i := 3) (oi := _) (v := undef) (by simp only [List.getElem?_toArray, List.getElem?_cons_succ, List.getElem?_cons_zero]; rfl) (by kernel_rfl) (by kernel_rfl) (by kernel_rfl) (by intro _ _ _ h; exact h) (Or.inr ⟨by rfl, rfl⟩) (by assumption) ?_
          simp only [Act.put, List.setIfInBounds_toArray, List.set_cons_zero, List.set_cons_succ]
          refine wpAnyH_take (i := 4) (oi := _) (v := undef) (by simp only [List.getElem?_toArray, List.getElem?_cons_succ, List.getElem?_cons_zero]; rfl) (by kernel_rfl) (by kernel_rfl) (by kernel_rfl) (by intro _ _ _ h; exact h) (Or.inr ⟨by rfl, rfl⟩) (by assumption) ?_
          simp only [Act.put, List.setIfInBounds_toArray, List.set_cons_zero, List.set_cons_succ]
          refine wpAnyH_take (i := 5) (oi := _) (v := ?_) (by simp only [List.getElem?_toArray, List.getElem?_cons_succ, List.getElem?_cons_zero]; rfl) (by kernel_rfl) (by kernel_rfl) (by kernel_rfl) (by intro _ _ _ h; exact h) (Or.inl ⟨by rfl, ?_⟩) (by assumption) ?_
          rotate_left
          · intro w hSw; go_simp; try (with_reducible rfl)
          simp only [Act.put, List.setIfInBounds_toArray, List.set_cons_zero, List.set_cons_succ]
          refine wpAnyH_take (i := 6) (oi := _) (v := ?_) (by simp only [List.getElem?_toArray, List.getElem?_cons_succ, List.getElem?_cons_zero]; rfl) (by kernel_rfl) (by kernel_rfl) (by kernel_rfl) (by intro _ _ _ h; exact h) (Or.inl ⟨by rfl, ?_⟩) (by assumption) ?_
          rotate_left
          · intro w hSw; go_simp; try (with_reducible rfl)
          simp only [Act.put, List.setIfInBounds_toArray, List.set_cons_zero, List.set_cons_succ]
          refine wpAnyH_take (i := 7) (oi := _) (v := ?_) (by simp only [List.getElem?_toArray, List.getElem?_cons_succ, List.getElem?_cons_zero]; rfl) (by kernel_rfl) (by kernel_rfl) (by kernel_rfl) (by intro _ _ _ h; exact h) (Or.inl ⟨by rfl, ?_⟩) (by assumption) ?_
          rotate_left
          · intro w hSw; go_simp; try (with_reducible rfl)
          simp only [Act.put, List.setIfInBounds_toArray, List.set_cons_zero, List.set_cons_succ]
          refine wpAnyH_take (i := 8) (oi := _) (v := ?_) (by simp only [List.getElem?_toArray, List.getElem?_cons_succ, List.getElem?_cons_zero]; rfl) (by kernel_rfl) (by kernel_rfl) (by kernel_rfl) (by intro _ _ _ h; exact h) (Or.inl ⟨by rfl, ?_⟩) (by assumption) ?_
          rotate_left
          · intro w hSw; go_simp; try (with_reducible rfl)
          simp only [Act.put, List.setIfInBounds_toArray, List.set_cons_zero, List.set_cons_succ]
          refine wpAnyH_take (i := 9) (oi := _) (v := ?_) (by simp only [List.getElem?_toArray, List.getElem?_cons_succ, List.getElem?_cons_zero]; rfl) (by kernel_rfl) (by kernel_rfl) (by kernel_rfl) (by intro _ _ _ h; exact h) (Or.inl ⟨by rfl, ?_⟩) (by assumption) ?_
          rotate_left
          · intro w hSw; go_simp; try (with_reducible rfl)
          simp only [Act.put, List.setIfInBounds_toArray, List.set_cons_zero, List.set_cons_succ]
          refine wpAnyH_take (i := 10) (oi := _) (v := ?_) (by simp only [List.getElem?_toArray, List.getElem?_cons_succ, List.getElem?_cons_zero]; rfl) (by kernel_rfl) (by kernel_rfl) (by kernel_rfl) (by intro _ _ _ h; exact h) (Or.inl ⟨by rfl, ?_⟩) (by assumption) ?_
          rotate_left
          · intro w hSw; go_simp; try (with_reducible rfl)
          simp only [Act.put, List.setIfInBounds_toArray, List.set_cons_zero, List.set_cons_succ]
          refine wpAnyH_take (i := 11) (oi := _) (v := ?_) (by simp only [List.getElem?_toArray, List.getElem?_cons_succ, List.getElem?_cons_zero]; rfl) (by kernel_rfl) (by kernel_rfl) (by kernel_rfl) (by intro _ _ _ h; exact h) (Or.inl ⟨by rfl, ?_⟩) (by assumption) ?_
          rotate_left
          · intro w hSw; go_simp; try (with_reducible rfl)
          simp only [Act.put, List.setIfInBounds_toArray, List.set_cons_zero, List.set_cons_succ]
          refine wpAnyH_take (i := 12) (oi := _) (v := ?_) (by simp only [List.getElem?_toArray, List.getElem?_cons_succ, List.getElem?_cons_zero]; rfl) (by kernel_rfl) (by kernel_rfl) (by kernel_rfl) (by intro _ _ _ h; exact h) (Or.inl ⟨by rfl, ?_⟩) (by assumption) ?_
          rotate_left
          · intro w hSw; go_simp; try (with_reducible rfl)
          simp only [Act.put, List.setIfInBounds_toArray, List.set_cons_zero, List.set_cons_succ]
          refine wpAnyH_take (i := 13) (oi := _) (v := ?_) (by simp only [List.getElem?_toArray, List.getElem?_cons_succ, List.getElem?_cons_zero]; rfl) (by kernel_rfl) (by kernel_rfl) (by kernel_rfl) (by intro _ _ _ h; exact h) (Or.inl ⟨by rfl, ?_⟩) (by assumption) ?_
          rotate_left
          · intro w hSw; go_simp; try (with_reducible rfl)
          simp only [Act.put, List.setIfInBounds_toArray, List.set_cons_zero, List.set_cons_succ]
          refine wpAnyH_take (i := 14) (oi := _) (v := ?_) (by simp only [List.getElem?_toArray, List.getElem?_cons_succ, List.getElem?_cons_zero]; rfl) (by kernel_rfl) (by kernel_rfl) (by kernel_rfl) (by intro _ _ _ h; exact h) (Or.inl ⟨by rfl, ?_⟩) (by assumption) ?_
          rotate_left
          · intro w hSw; go_simp; try (with_reducible rfl)
          simp only [Act.put, List.setIfInBounds_toArray, List.set_cons_zero, List.set_cons_succ]
          refine wpAnyH_take (i := 15) (oi := _) (v := ?_) (by simp only [List.getElem?_toArray, List.getElem?_cons_succ, List.getElem?_cons_zero]; rfl) (by kernel_rfl) (by kernel_rfl) (by kernel_rfl) (by intro _ _ _ h; exact h) (Or.inl ⟨by rfl, ?_⟩) (by assumption) ?_
          rotate_left
          · intro w hSw; go_simp; try (with_reducible rfl)
          simp only [Act.put, List.setIfInBounds_toArray, List.set_cons_zero, List.set_cons_succ]
          refine wpAnyH_take (i := 17) (oi := _) (v := ?_) (by simp only [List.getElem?_toArray, List.getElem?_cons_succ, List.getElem?_cons_zero]; rfl) (by kernel_rfl) (by kernel_rfl) (by kernel_rfl) (by intro _ _ _ h; exact h) (Or.inl ⟨by rfl, ?_⟩) (by assumption) ?_
          rotate_left
          · intro w hSw; go_simp; try (with_reducible rfl)
          simp only [Act.put, List.setIfInBounds_toArray, List.set_cons_zero, List.set_cons_succ]
          refine wpAnyH_take (i := 18) (oi := _) (v := ?_) (by simp only [List.getElem?_toArray, List.getElem?_cons_succ, List.getElem?_cons_zero]; rfl) (by kernel_rfl) (by kernel_rfl) (by kernel_rfl) (by intro _ _ _ h; exact h) (Or.inl ⟨by rfl, ?_⟩) (by assumption) ?_
          rotate_left
          · intro w hSw; obtain ⟨hS1, _⟩ := hSw; go_simp; try (with_reducible rfl)
          simp only [Act.put, List.setIfInBounds_toArray, List.set_cons_zero, List.set_cons_succ]
          refine wpAnyH_ready (rs := [16]) (by kernel_rfl) (by simp) ?_
          refine AllReadyH.cons (o := _) (by simp only [List.getElem?_toArray, List.getElem?_cons_succ, List.getElem?_cons_zero]; rfl) (fun K hK => ?_) ?_
          rotate_left
          · exact AllReadyH.nil
          go_simp
          go_at_call 14
          refine (pantryref02_Show.calls k u (turnB a0 a1 a2) _ HV.out).mono ?_
          rintro e w9 ⟨rfl, hbt⟩
          have S9 := Turned.keep h29 S5d hbt
          try go_simp
          refine hK.out _ _ ⟨S9.1, S9⟩ (fun hHeld => ?_)
          clear hK K
          try simp only [Act.put, List.setIfInBounds_toArray, List.set_cons_zero, List.set_cons_succ]
          refine wpAnyH_take (i := 19) (oi := _) (v := ?_) (by simp only [List.getElem?_toArray, List.getElem?_cons_succ, List.getElem?_cons_zero]; rfl) (by kernel_rfl) (by kernel_rfl) (by kernel_rfl) (by intro _ _ _ h; exact h) (Or.inl ⟨by rfl, ?_⟩) (by assumption) ?_
          rotate_left
          · intro w hSw; go_simp; try (with_reducible rfl)
          simp only [Act.put, List.setIfInBounds_toArray, List.set_cons_zero, List.set_cons_succ]
          refine wpAnyH_take (i := 20) (oi := _) (v := ?_) (by simp only [List.getElem?_toArray, List.getElem?_cons_succ, List.getElem?_cons_zero]; rfl) (by kernel_rfl) (by kernel_rfl) (by kernel_rfl) (by intro _ _ _ h; exact h) (Or.inl ⟨by rfl, ?_⟩) (by assumption) ?_
          rotate_left
          · intro w hSw; go_simp; try (with_reducible rfl)
          simp only [Act.put, List.setIfInBounds_toArray, List.set_cons_zero, List.set_cons_succ]
          refine wpAnyH_take (i := 21) (oi := _) (v := ?_) (by simp only [List.getElem?_toArray, List.getElem?_cons_succ, List.getElem?_cons_zero]; rfl) (by kernel_rfl) (by kernel_rfl) (by kernel_rfl) (by intro _ _ _ h; exact h) (Or.inl ⟨by rfl, ?_⟩) (by assumption) ?_
          rotate_left
          · intro w hSw; go_simp; try (with_reducible rfl)
          simp only [Act.put, List.setIfInBounds_toArray, List.set_cons_zero, List.set_cons_succ]
          refine wpAnyH_take (i := 22) (oi := _) (v := ?_) (by simp only [List.getElem?_toArray, List.getElem?_cons_succ, List.getElem?_cons_zero]; rfl) (by kernel_rfl) (by kernel_rfl) (by kernel_rfl) (by intro _ _ _ h; exact h) (Or.inl ⟨by rfl, ?_⟩) (by assumption) ?_
          rotate_left
          · intro w hSw; go_simp; try (with_reducible rfl)
          simp only [Act.put, List.setIfInBounds_toArray, List.set_cons_zero, List.set_cons_succ]
          refine wpAnyH_done (by kernel_rfl) ?_ _
          have hb9 := S9.2.2.1
          go_wp2
          go_ret
          exact ⟨rfl, hb9⟩
  · rw [if_neg hok] at h
    cases h

def pantrylaw02_DateReads.Pure : Prop := ∀ (a0 : ByteArray) (a1 : Int) (a2 : Int), a0.size ≤ 140737488351232 → (Lit.int .i64 a1).wf = true → (Lit.int .u8 a2).wf = true → ∃ k, pantrylaw02_DateReads.f k a0 a1 a2 = some true
theorem pantrylaw02_DateReads.walk (P : pantrylaw02_DateReads.Pure) (a0 : ByteArray) (a1 : Int) (a2 : Int) (w : World) (w0 : a0.size ≤ 140737488351232) (w1 : (Lit.int .i64 a1).wf = true) (w2 : (Lit.int .u8 a2).wf = true) (hrW : WF w) :
    Calls Try.prog 5 #[.string a0, .int .i64 a1, .int .u8 a2] w fun e w' => e = .returned (.bool true) ∧ Below w.heap.size w w' := by
  obtain ⟨k, h⟩ := P a0 a1 a2 w0 w1 w2
  refine (pantrylaw02_DateReads.calls k a0 a1 a2 true w hrW h).mono ?_
  rintro e w' ⟨rfl, hd⟩
  exact ⟨rfl, hd⟩

/-! ### pantrylaw02_DateDays: function 6 -/
def pantrylaw02_DateDays.f (k : Nat) (a0 : Int) (a1 : Int) (a2 : Int) : Option (Bool) := (pantrylaw02_anchor.f k).bind fun t145 => (if t145 = true then ((date_Days.f k a0 a1).bind fun t146 => ((pantryref02_Days.f a0 a1).bind fun t147 => (if t146 = t147 then ((date_Split.f k a2).bind fun bt148 => (if bt148.2.2.2.2 = 0 then (if bt148.2.2.1 ≥ 1 then ((date_Days.f k bt148.1 bt148.2.1).bind fun t153 => (if bt148.2.2.1 ≤ t153 then (if bt148.2.2.2.1 ≥ 0 then (some (decide (bt148.2.2.2.1 < 86400))) else (some false)) else (some false))) else (some false)) else (some true))) else (some false)))) else (some false))
theorem pantrylaw02_DateDays.mono : ∀ a0 a1 a2 k, LeO (pantrylaw02_DateDays.f k a0 a1 a2) (pantrylaw02_DateDays.f (k + 1) a0 a1 a2) := by
  intro a0 a1 a2 k
  unfold pantrylaw02_DateDays.f
  repeat' first
      | (with_reducible exact date_Days.mono _ _ _)
      | (with_reducible exact date_Split.mono _ _)
      | (with_reducible exact pantrylaw02_anchor.mono _)
      | (with_reducible exact LeO.refl _)
      | (with_reducible exact LeO.none _)
      | (with_reducible refine LeO.ite ?_ ?_)
      | (with_reducible refine LeO.bind ?_ (fun _ => ?_))
      | exact date_Days.mono _ _ _
      | exact date_Split.mono _ _
      | exact pantrylaw02_anchor.mono _
      | exact LeO.none _
      | refine LeO.ite ?_ ?_
      | refine LeO.bind ?_ (fun _ => ?_)
set_option maxHeartbeats 8000000 in
set_option maxRecDepth 100000 in
theorem pantrylaw02_DateDays.calls (k : Nat) (a0 : Int) (a1 : Int) (a2 : Int) (r : Bool) (w : World) (hrW : WF w) (h : pantrylaw02_DateDays.f k a0 a1 a2 = some r) :
    Calls Try.prog 6 #[.int .i64 a0, .int .i64 a1, .int .i64 a2] w fun e w' => e = .returned (.bool r) ∧ Below w.heap.size w w' := by
  have HRW := Aside0.mk hrW
  clear hrW
  have HB := Aside0.mk (Below.refl w.heap.size w)
  have H : ((pantrylaw02_anchor.f k).bind fun t145 => (if t145 = true then ((date_Days.f k a0 a1).bind fun t146 => ((pantryref02_Days.f a0 a1).bind fun t147 => (if t146 = t147 then ((date_Split.f k a2).bind fun bt148 => (if bt148.2.2.2.2 = 0 then (if bt148.2.2.1 ≥ 1 then ((date_Days.f k bt148.1 bt148.2.1).bind fun t153 => (if bt148.2.2.1 ≤ t153 then (if bt148.2.2.2.1 ≥ 0 then (some (decide (bt148.2.2.2.1 < 86400))) else (some false)) else (some false))) else (some false)) else (some true))) else (some false)))) else (some false))) = some r := h
  clear h
  replace H := Option.bind_eq_some_iff.mp H
  obtain ⟨t145, A40, H⟩ := H
  replace H : (if t145 = true then ((date_Days.f k a0 a1).bind fun t146 => ((pantryref02_Days.f a0 a1).bind fun t147 => (if t146 = t147 then ((date_Split.f k a2).bind fun bt148 => (if bt148.2.2.2.2 = 0 then (if bt148.2.2.1 ≥ 1 then ((date_Days.f k bt148.1 bt148.2.1).bind fun t153 => (if bt148.2.2.1 ≤ t153 then (if bt148.2.2.2.1 ≥ 0 then (some (decide (bt148.2.2.2.1 < 86400))) else (some false)) else (some false))) else (some false)) else (some true))) else (some false)))) else (some false)) = some r := H
  have A4 := Aside0.mk A40
  clear A40
  by_cases c5 : t145 = true
  · subst c5
    have H1 : ((date_Days.f k a0 a1).bind fun t146 => ((pantryref02_Days.f a0 a1).bind fun t147 => (if t146 = t147 then ((date_Split.f k a2).bind fun bt148 => (if bt148.2.2.2.2 = 0 then (if bt148.2.2.1 ≥ 1 then ((date_Days.f k bt148.1 bt148.2.1).bind fun t153 => (if bt148.2.2.1 ≤ t153 then (if bt148.2.2.2.1 ≥ 0 then (some (decide (bt148.2.2.2.1 < 86400))) else (some false)) else (some false))) else (some false)) else (some true))) else (some false)))) = some r := by rw [if_pos rfl] at H; exact H
    clear H
    have H := H1
    clear H1
    replace H := Option.bind_eq_some_iff.mp H
    obtain ⟨t146, A60, H⟩ := H
    replace H : ((pantryref02_Days.f a0 a1).bind fun t147 => (if t146 = t147 then ((date_Split.f k a2).bind fun bt148 => (if bt148.2.2.2.2 = 0 then (if bt148.2.2.1 ≥ 1 then ((date_Days.f k bt148.1 bt148.2.1).bind fun t153 => (if bt148.2.2.1 ≤ t153 then (if bt148.2.2.2.1 ≥ 0 then (some (decide (bt148.2.2.2.1 < 86400))) else (some false)) else (some false))) else (some false)) else (some true))) else (some false))) = some r := H
    have A6 := Aside0.mk A60
    clear A60
    replace H := Option.bind_eq_some_iff.mp H
    obtain ⟨t147, A70, H⟩ := H
    replace H : (if t146 = t147 then ((date_Split.f k a2).bind fun bt148 => (if bt148.2.2.2.2 = 0 then (if bt148.2.2.1 ≥ 1 then ((date_Days.f k bt148.1 bt148.2.1).bind fun t153 => (if bt148.2.2.1 ≤ t153 then (if bt148.2.2.2.1 ≥ 0 then (some (decide (bt148.2.2.2.1 < 86400))) else (some false)) else (some false))) else (some false)) else (some true))) else (some false)) = some r := H
    have A7 := Aside0.mk A70
    clear A70
    by_cases c8 : t146 = t147
    · rw [if_pos c8] at H
      have c8b0 : (t146 == t147) = true := beq_iff_eq.mpr c8
      have c8b1 : (t146 != t147) = false := bne_eq_false_iff_eq.mpr c8
      clear c8
      replace H := Option.bind_eq_some_iff.mp H
      obtain ⟨⟨t148, t149, t150, t151, t152⟩, A90, H⟩ := H
      replace H : (if t152 = 0 then (if t150 ≥ 1 then ((date_Days.f k t148 t149).bind fun t153 => (if t150 ≤ t153 then (if t151 ≥ 0 then (some (decide (t151 < 86400))) else (some false)) else (some false))) else (some false)) else (some true)) = some r := H
      have A9 := Aside0.mk A90
      clear A90
      by_cases c10 : t152 = 0
      · rw [if_pos c10] at H
        have c10b0 : (t152 == 0) = true := beq_iff_eq.mpr c10
        have c10b1 : (t152 != 0) = false := bne_eq_false_iff_eq.mpr c10
        clear c10
        by_cases c11 : t150 ≥ 1
        · rw [if_pos c11] at H
          have c11b0 : decide (1 ≤ t150) = true := decide_eq_true c11
          clear c11
          replace H := Option.bind_eq_some_iff.mp H
          obtain ⟨t153, A120, H⟩ := H
          replace H : (if t150 ≤ t153 then (if t151 ≥ 0 then (some (decide (t151 < 86400))) else (some false)) else (some false)) = some r := H
          have A12 := Aside0.mk A120
          clear A120
          by_cases c13 : t150 ≤ t153
          · rw [if_pos c13] at H
            have c13b0 : decide (t150 ≤ t153) = true := decide_eq_true c13
            clear c13
            by_cases c14 : t151 ≥ 0
            · rw [if_pos c14] at H
              have c14b0 : decide (0 ≤ t151) = true := decide_eq_true c14
              clear c14
              obtain rfl := Option.some.inj H
              go_enter Try.func6, Try.ntmps6
              go_wp2_with (first | ((with_reducible refine gate_callee (f := 10) rfl ?_); refine goesL_ (some 12) rfl rfl Try.func10 (by kernel_rfl) rfl #[] rfl (by (try simp only [List.map_toArray, List.map_cons, List.map_nil]); first | done | rfl | (simp only [List.length_drop, List.length_take]; rfl)) ?_; (with_reducible refine (pantrylaw02_anchor.calls k  true _ ?side1 A4.out).mono ?_); (case side1 => repeat (first | exact HRW.out | (with_reducible refine Kd.C_alloc ?_ _) | (with_reducible refine Kd.C_drewN ?_ _) | (with_reducible refine Kd.C_drew ?_))); rintro e w15 ⟨rfl, hb⟩; refine ⟨_, rfl, ?_⟩; have n0_ := Aside0.mk (below_step (by repeat (first | (with_reducible first | exact HB.out | apply below_alloc | apply pw_below_drewN | apply below_drew1) | exact HB.out)) hb); clear HB; have HB := n0_; clear n0_; (try clear hb); (try clear hb2); (try clear hk); (try clear hi)) | ((with_reducible refine gate_callee (f := 16) rfl ?_); refine goesL_ (some 16) rfl rfl Try.func16 (by kernel_rfl) rfl #[.int .i64 a0, .int .i64 a1] rfl (by (try simp only [List.map_toArray, List.map_cons, List.map_nil]); first | done | rfl | (simp only [List.length_drop, List.length_take]; rfl)) ?_; (with_reducible refine (date_Days.calls k a0 a1 t146 _ A6.out).mono ?_); rintro e w' ⟨rfl, ⟨nd, rfl⟩⟩; refine ⟨_, rfl, ?_⟩) | ((with_reducible refine gate_callee (f := 17) rfl ?_); refine goesL_ (some 19) rfl rfl Try.func17 (by kernel_rfl) rfl #[.int .i64 a0, .int .i64 a1] rfl (by (try simp only [List.map_toArray, List.map_cons, List.map_nil]); first | done | rfl | (simp only [List.length_drop, List.length_take]; rfl)) ?_; (with_reducible refine (pantryref02_Days.calls a0 a1 t147 _ A7.out).mono ?_); rintro e w16 ⟨rfl, hb⟩; refine ⟨_, rfl, ?_⟩; have n0_ := Aside0.mk (below_step (by repeat (first | (with_reducible first | exact HB.out | apply below_alloc | apply pw_below_drewN | apply below_drew1) | exact HB.out)) hb); clear HB; have HB := n0_; clear n0_; (try clear hb); (try clear hb2); (try clear hk); (try clear hi)) | ((with_reducible refine gate_callee (f := 12) rfl ?_); refine goesL_ (some 23) rfl rfl Try.func12 (by kernel_rfl) rfl #[.int .i64 a2] rfl (by (try simp only [List.map_toArray, List.map_cons, List.map_nil]); first | done | rfl | (simp only [List.length_drop, List.length_take]; rfl)) ?_; (with_reducible refine (date_Split.calls k a2 t148 t149 t150 t151 t152 _ A9.out).mono ?_); rintro e w' ⟨rfl, ⟨nd, rfl⟩⟩; refine ⟨_, rfl, ?_⟩) | (go_at_call 16; (with_reducible refine (date_Days.calls k t148 t149 t153 _ A12.out).mono ?_); rintro e w' ⟨rfl, ⟨nd, rfl⟩⟩))
              go_ret
              exact ⟨by first | rfl | (generalize ByteArray.toList _ = l_; cases l_ <;> rfl) | (simp [errW_none, errW_some] <;> rfl) | (simp [*, errW_none, errW_some] <;> rfl), by repeat (first | (with_reducible first | exact HB.out | apply below_alloc | apply pw_below_drewN | apply below_drew1) | exact HB.out)⟩
            · rw [if_neg c14] at H
              have c14b0 : decide (0 ≤ t151) = false := decide_eq_false c14
              clear c14
              obtain rfl := Option.some.inj H
              go_enter Try.func6, Try.ntmps6
              go_wp2_with (first | ((with_reducible refine gate_callee (f := 10) rfl ?_); refine goesL_ (some 12) rfl rfl Try.func10 (by kernel_rfl) rfl #[] rfl (by (try simp only [List.map_toArray, List.map_cons, List.map_nil]); first | done | rfl | (simp only [List.length_drop, List.length_take]; rfl)) ?_; (with_reducible refine (pantrylaw02_anchor.calls k  true _ ?side1 A4.out).mono ?_); (case side1 => repeat (first | exact HRW.out | (with_reducible refine Kd.C_alloc ?_ _) | (with_reducible refine Kd.C_drewN ?_ _) | (with_reducible refine Kd.C_drew ?_))); rintro e w17 ⟨rfl, hb⟩; refine ⟨_, rfl, ?_⟩; have n0_ := Aside0.mk (below_step (by repeat (first | (with_reducible first | exact HB.out | apply below_alloc | apply pw_below_drewN | apply below_drew1) | exact HB.out)) hb); clear HB; have HB := n0_; clear n0_; (try clear hb); (try clear hb2); (try clear hk); (try clear hi)) | ((with_reducible refine gate_callee (f := 16) rfl ?_); refine goesL_ (some 16) rfl rfl Try.func16 (by kernel_rfl) rfl #[.int .i64 a0, .int .i64 a1] rfl (by (try simp only [List.map_toArray, List.map_cons, List.map_nil]); first | done | rfl | (simp only [List.length_drop, List.length_take]; rfl)) ?_; (with_reducible refine (date_Days.calls k a0 a1 t146 _ A6.out).mono ?_); rintro e w' ⟨rfl, ⟨nd, rfl⟩⟩; refine ⟨_, rfl, ?_⟩) | ((with_reducible refine gate_callee (f := 17) rfl ?_); refine goesL_ (some 19) rfl rfl Try.func17 (by kernel_rfl) rfl #[.int .i64 a0, .int .i64 a1] rfl (by (try simp only [List.map_toArray, List.map_cons, List.map_nil]); first | done | rfl | (simp only [List.length_drop, List.length_take]; rfl)) ?_; (with_reducible refine (pantryref02_Days.calls a0 a1 t147 _ A7.out).mono ?_); rintro e w18 ⟨rfl, hb⟩; refine ⟨_, rfl, ?_⟩; have n0_ := Aside0.mk (below_step (by repeat (first | (with_reducible first | exact HB.out | apply below_alloc | apply pw_below_drewN | apply below_drew1) | exact HB.out)) hb); clear HB; have HB := n0_; clear n0_; (try clear hb); (try clear hb2); (try clear hk); (try clear hi)) | ((with_reducible refine gate_callee (f := 12) rfl ?_); refine goesL_ (some 23) rfl rfl Try.func12 (by kernel_rfl) rfl #[.int .i64 a2] rfl (by (try simp only [List.map_toArray, List.map_cons, List.map_nil]); first | done | rfl | (simp only [List.length_drop, List.length_take]; rfl)) ?_; (with_reducible refine (date_Split.calls k a2 t148 t149 t150 t151 t152 _ A9.out).mono ?_); rintro e w' ⟨rfl, ⟨nd, rfl⟩⟩; refine ⟨_, rfl, ?_⟩) | (go_at_call 16; (with_reducible refine (date_Days.calls k t148 t149 t153 _ A12.out).mono ?_); rintro e w' ⟨rfl, ⟨nd, rfl⟩⟩))
              go_ret
              exact ⟨by first | rfl | (generalize ByteArray.toList _ = l_; cases l_ <;> rfl) | (simp [errW_none, errW_some] <;> rfl) | (simp [*, errW_none, errW_some] <;> rfl), by repeat (first | (with_reducible first | exact HB.out | apply below_alloc | apply pw_below_drewN | apply below_drew1) | exact HB.out)⟩
          · rw [if_neg c13] at H
            have c13b0 : decide (t150 ≤ t153) = false := decide_eq_false c13
            clear c13
            obtain rfl := Option.some.inj H
            go_enter Try.func6, Try.ntmps6
            go_wp2_with (first | ((with_reducible refine gate_callee (f := 10) rfl ?_); refine goesL_ (some 12) rfl rfl Try.func10 (by kernel_rfl) rfl #[] rfl (by (try simp only [List.map_toArray, List.map_cons, List.map_nil]); first | done | rfl | (simp only [List.length_drop, List.length_take]; rfl)) ?_; (with_reducible refine (pantrylaw02_anchor.calls k  true _ ?side1 A4.out).mono ?_); (case side1 => repeat (first | exact HRW.out | (with_reducible refine Kd.C_alloc ?_ _) | (with_reducible refine Kd.C_drewN ?_ _) | (with_reducible refine Kd.C_drew ?_))); rintro e w19 ⟨rfl, hb⟩; refine ⟨_, rfl, ?_⟩; have n0_ := Aside0.mk (below_step (by repeat (first | (with_reducible first | exact HB.out | apply below_alloc | apply pw_below_drewN | apply below_drew1) | exact HB.out)) hb); clear HB; have HB := n0_; clear n0_; (try clear hb); (try clear hb2); (try clear hk); (try clear hi)) | ((with_reducible refine gate_callee (f := 16) rfl ?_); refine goesL_ (some 16) rfl rfl Try.func16 (by kernel_rfl) rfl #[.int .i64 a0, .int .i64 a1] rfl (by (try simp only [List.map_toArray, List.map_cons, List.map_nil]); first | done | rfl | (simp only [List.length_drop, List.length_take]; rfl)) ?_; (with_reducible refine (date_Days.calls k a0 a1 t146 _ A6.out).mono ?_); rintro e w' ⟨rfl, ⟨nd, rfl⟩⟩; refine ⟨_, rfl, ?_⟩) | ((with_reducible refine gate_callee (f := 17) rfl ?_); refine goesL_ (some 19) rfl rfl Try.func17 (by kernel_rfl) rfl #[.int .i64 a0, .int .i64 a1] rfl (by (try simp only [List.map_toArray, List.map_cons, List.map_nil]); first | done | rfl | (simp only [List.length_drop, List.length_take]; rfl)) ?_; (with_reducible refine (pantryref02_Days.calls a0 a1 t147 _ A7.out).mono ?_); rintro e w20 ⟨rfl, hb⟩; refine ⟨_, rfl, ?_⟩; have n0_ := Aside0.mk (below_step (by repeat (first | (with_reducible first | exact HB.out | apply below_alloc | apply pw_below_drewN | apply below_drew1) | exact HB.out)) hb); clear HB; have HB := n0_; clear n0_; (try clear hb); (try clear hb2); (try clear hk); (try clear hi)) | ((with_reducible refine gate_callee (f := 12) rfl ?_); refine goesL_ (some 23) rfl rfl Try.func12 (by kernel_rfl) rfl #[.int .i64 a2] rfl (by (try simp only [List.map_toArray, List.map_cons, List.map_nil]); first | done | rfl | (simp only [List.length_drop, List.length_take]; rfl)) ?_; (with_reducible refine (date_Split.calls k a2 t148 t149 t150 t151 t152 _ A9.out).mono ?_); rintro e w' ⟨rfl, ⟨nd, rfl⟩⟩; refine ⟨_, rfl, ?_⟩) | (go_at_call 16; (with_reducible refine (date_Days.calls k t148 t149 t153 _ A12.out).mono ?_); rintro e w' ⟨rfl, ⟨nd, rfl⟩⟩))
            go_ret
            exact ⟨by first | rfl | (generalize ByteArray.toList _ = l_; cases l_ <;> rfl) | (simp [errW_none, errW_some] <;> rfl) | (simp [*, errW_none, errW_some] <;> rfl), by repeat (first | (with_reducible first | exact HB.out | apply below_alloc | apply pw_below_drewN | apply below_drew1) | exact HB.out)⟩
        · rw [if_neg c11] at H
          have c11b0 : decide (1 ≤ t150) = false := decide_eq_false c11
          clear c11
          obtain rfl := Option.some.inj H
          go_enter Try.func6, Try.ntmps6
          go_wp2_with (first | ((with_reducible refine gate_callee (f := 10) rfl ?_); refine goesL_ (some 12) rfl rfl Try.func10 (by kernel_rfl) rfl #[] rfl (by (try simp only [List.map_toArray, List.map_cons, List.map_nil]); first | done | rfl | (simp only [List.length_drop, List.length_take]; rfl)) ?_; (with_reducible refine (pantrylaw02_anchor.calls k  true _ ?side1 A4.out).mono ?_); (case side1 => repeat (first | exact HRW.out | (with_reducible refine Kd.C_alloc ?_ _) | (with_reducible refine Kd.C_drewN ?_ _) | (with_reducible refine Kd.C_drew ?_))); rintro e w21 ⟨rfl, hb⟩; refine ⟨_, rfl, ?_⟩; have n0_ := Aside0.mk (below_step (by repeat (first | (with_reducible first | exact HB.out | apply below_alloc | apply pw_below_drewN | apply below_drew1) | exact HB.out)) hb); clear HB; have HB := n0_; clear n0_; (try clear hb); (try clear hb2); (try clear hk); (try clear hi)) | ((with_reducible refine gate_callee (f := 16) rfl ?_); refine goesL_ (some 16) rfl rfl Try.func16 (by kernel_rfl) rfl #[.int .i64 a0, .int .i64 a1] rfl (by (try simp only [List.map_toArray, List.map_cons, List.map_nil]); first | done | rfl | (simp only [List.length_drop, List.length_take]; rfl)) ?_; (with_reducible refine (date_Days.calls k a0 a1 t146 _ A6.out).mono ?_); rintro e w' ⟨rfl, ⟨nd, rfl⟩⟩; refine ⟨_, rfl, ?_⟩) | ((with_reducible refine gate_callee (f := 17) rfl ?_); refine goesL_ (some 19) rfl rfl Try.func17 (by kernel_rfl) rfl #[.int .i64 a0, .int .i64 a1] rfl (by (try simp only [List.map_toArray, List.map_cons, List.map_nil]); first | done | rfl | (simp only [List.length_drop, List.length_take]; rfl)) ?_; (with_reducible refine (pantryref02_Days.calls a0 a1 t147 _ A7.out).mono ?_); rintro e w22 ⟨rfl, hb⟩; refine ⟨_, rfl, ?_⟩; have n0_ := Aside0.mk (below_step (by repeat (first | (with_reducible first | exact HB.out | apply below_alloc | apply pw_below_drewN | apply below_drew1) | exact HB.out)) hb); clear HB; have HB := n0_; clear n0_; (try clear hb); (try clear hb2); (try clear hk); (try clear hi)) | ((with_reducible refine gate_callee (f := 12) rfl ?_); refine goesL_ (some 23) rfl rfl Try.func12 (by kernel_rfl) rfl #[.int .i64 a2] rfl (by (try simp only [List.map_toArray, List.map_cons, List.map_nil]); first | done | rfl | (simp only [List.length_drop, List.length_take]; rfl)) ?_; (with_reducible refine (date_Split.calls k a2 t148 t149 t150 t151 t152 _ A9.out).mono ?_); rintro e w' ⟨rfl, ⟨nd, rfl⟩⟩; refine ⟨_, rfl, ?_⟩))
          go_ret
          exact ⟨by first | rfl | (generalize ByteArray.toList _ = l_; cases l_ <;> rfl) | (simp [errW_none, errW_some] <;> rfl) | (simp [*, errW_none, errW_some] <;> rfl), by repeat (first | (with_reducible first | exact HB.out | apply below_alloc | apply pw_below_drewN | apply below_drew1) | exact HB.out)⟩
      · rw [if_neg c10] at H
        have c10b0 : (t152 == 0) = false := beq_eq_false_iff_ne.mpr c10
        have c10b1 : (t152 != 0) = true := bne_iff_ne.mpr c10
        obtain rfl := Option.some.inj H
        go_enter Try.func6, Try.ntmps6
        go_wp2_with (first | ((with_reducible refine gate_callee (f := 10) rfl ?_); refine goesL_ (some 12) rfl rfl Try.func10 (by kernel_rfl) rfl #[] rfl (by (try simp only [List.map_toArray, List.map_cons, List.map_nil]); first | done | rfl | (simp only [List.length_drop, List.length_take]; rfl)) ?_; (with_reducible refine (pantrylaw02_anchor.calls k  true _ ?side1 A4.out).mono ?_); (case side1 => repeat (first | exact HRW.out | (with_reducible refine Kd.C_alloc ?_ _) | (with_reducible refine Kd.C_drewN ?_ _) | (with_reducible refine Kd.C_drew ?_))); rintro e w23 ⟨rfl, hb⟩; refine ⟨_, rfl, ?_⟩; have n0_ := Aside0.mk (below_step (by repeat (first | (with_reducible first | exact HB.out | apply below_alloc | apply pw_below_drewN | apply below_drew1) | exact HB.out)) hb); clear HB; have HB := n0_; clear n0_; (try clear hb); (try clear hb2); (try clear hk); (try clear hi)) | ((with_reducible refine gate_callee (f := 16) rfl ?_); refine goesL_ (some 16) rfl rfl Try.func16 (by kernel_rfl) rfl #[.int .i64 a0, .int .i64 a1] rfl (by (try simp only [List.map_toArray, List.map_cons, List.map_nil]); first | done | rfl | (simp only [List.length_drop, List.length_take]; rfl)) ?_; (with_reducible refine (date_Days.calls k a0 a1 t146 _ A6.out).mono ?_); rintro e w' ⟨rfl, ⟨nd, rfl⟩⟩; refine ⟨_, rfl, ?_⟩) | ((with_reducible refine gate_callee (f := 17) rfl ?_); refine goesL_ (some 19) rfl rfl Try.func17 (by kernel_rfl) rfl #[.int .i64 a0, .int .i64 a1] rfl (by (try simp only [List.map_toArray, List.map_cons, List.map_nil]); first | done | rfl | (simp only [List.length_drop, List.length_take]; rfl)) ?_; (with_reducible refine (pantryref02_Days.calls a0 a1 t147 _ A7.out).mono ?_); rintro e w24 ⟨rfl, hb⟩; refine ⟨_, rfl, ?_⟩; have n0_ := Aside0.mk (below_step (by repeat (first | (with_reducible first | exact HB.out | apply below_alloc | apply pw_below_drewN | apply below_drew1) | exact HB.out)) hb); clear HB; have HB := n0_; clear n0_; (try clear hb); (try clear hb2); (try clear hk); (try clear hi)) | ((with_reducible refine gate_callee (f := 12) rfl ?_); refine goesL_ (some 23) rfl rfl Try.func12 (by kernel_rfl) rfl #[.int .i64 a2] rfl (by (try simp only [List.map_toArray, List.map_cons, List.map_nil]); first | done | rfl | (simp only [List.length_drop, List.length_take]; rfl)) ?_; (with_reducible refine (date_Split.calls k a2 t148 t149 t150 t151 t152 _ A9.out).mono ?_); rintro e w' ⟨rfl, ⟨nd, rfl⟩⟩; refine ⟨_, rfl, ?_⟩))
        go_ret
        exact ⟨by first | rfl | (generalize ByteArray.toList _ = l_; cases l_ <;> rfl) | (simp [errW_none, errW_some] <;> rfl) | (simp [*, errW_none, errW_some] <;> rfl), by repeat (first | (with_reducible first | exact HB.out | apply below_alloc | apply pw_below_drewN | apply below_drew1) | exact HB.out)⟩
    · rw [if_neg c8] at H
      have c8b0 : (t146 == t147) = false := beq_eq_false_iff_ne.mpr c8
      have c8b1 : (t146 != t147) = true := bne_iff_ne.mpr c8
      obtain rfl := Option.some.inj H
      go_enter Try.func6, Try.ntmps6
      go_wp2_with (first | ((with_reducible refine gate_callee (f := 10) rfl ?_); refine goesL_ (some 12) rfl rfl Try.func10 (by kernel_rfl) rfl #[] rfl (by (try simp only [List.map_toArray, List.map_cons, List.map_nil]); first | done | rfl | (simp only [List.length_drop, List.length_take]; rfl)) ?_; (with_reducible refine (pantrylaw02_anchor.calls k  true _ ?side1 A4.out).mono ?_); (case side1 => repeat (first | exact HRW.out | (with_reducible refine Kd.C_alloc ?_ _) | (with_reducible refine Kd.C_drewN ?_ _) | (with_reducible refine Kd.C_drew ?_))); rintro e w25 ⟨rfl, hb⟩; refine ⟨_, rfl, ?_⟩; have n0_ := Aside0.mk (below_step (by repeat (first | (with_reducible first | exact HB.out | apply below_alloc | apply pw_below_drewN | apply below_drew1) | exact HB.out)) hb); clear HB; have HB := n0_; clear n0_; (try clear hb); (try clear hb2); (try clear hk); (try clear hi)) | ((with_reducible refine gate_callee (f := 16) rfl ?_); refine goesL_ (some 16) rfl rfl Try.func16 (by kernel_rfl) rfl #[.int .i64 a0, .int .i64 a1] rfl (by (try simp only [List.map_toArray, List.map_cons, List.map_nil]); first | done | rfl | (simp only [List.length_drop, List.length_take]; rfl)) ?_; (with_reducible refine (date_Days.calls k a0 a1 t146 _ A6.out).mono ?_); rintro e w' ⟨rfl, ⟨nd, rfl⟩⟩; refine ⟨_, rfl, ?_⟩) | ((with_reducible refine gate_callee (f := 17) rfl ?_); refine goesL_ (some 19) rfl rfl Try.func17 (by kernel_rfl) rfl #[.int .i64 a0, .int .i64 a1] rfl (by (try simp only [List.map_toArray, List.map_cons, List.map_nil]); first | done | rfl | (simp only [List.length_drop, List.length_take]; rfl)) ?_; (with_reducible refine (pantryref02_Days.calls a0 a1 t147 _ A7.out).mono ?_); rintro e w26 ⟨rfl, hb⟩; refine ⟨_, rfl, ?_⟩; have n0_ := Aside0.mk (below_step (by repeat (first | (with_reducible first | exact HB.out | apply below_alloc | apply pw_below_drewN | apply below_drew1) | exact HB.out)) hb); clear HB; have HB := n0_; clear n0_; (try clear hb); (try clear hb2); (try clear hk); (try clear hi)))
      go_ret
      exact ⟨by first | rfl | (generalize ByteArray.toList _ = l_; cases l_ <;> rfl) | (simp [errW_none, errW_some] <;> rfl) | (simp [*, errW_none, errW_some] <;> rfl), by repeat (first | (with_reducible first | exact HB.out | apply below_alloc | apply pw_below_drewN | apply below_drew1) | exact HB.out)⟩
  · replace c5 := Bool.eq_false_iff.mpr c5
    subst c5
    have H1 : (some false) = some r := by rw [if_neg (show ¬ (false = true) by decide)] at H; exact H
    clear H
    have H := H1
    clear H1
    obtain rfl := Option.some.inj H
    go_enter Try.func6, Try.ntmps6
    go_wp2_with (first | ((with_reducible refine gate_callee (f := 10) rfl ?_); refine goesL_ (some 12) rfl rfl Try.func10 (by kernel_rfl) rfl #[] rfl (by (try simp only [List.map_toArray, List.map_cons, List.map_nil]); first | done | rfl | (simp only [List.length_drop, List.length_take]; rfl)) ?_; (with_reducible refine (pantrylaw02_anchor.calls k  false _ ?side1 A4.out).mono ?_); (case side1 => repeat (first | exact HRW.out | (with_reducible refine Kd.C_alloc ?_ _) | (with_reducible refine Kd.C_drewN ?_ _) | (with_reducible refine Kd.C_drew ?_))); rintro e w27 ⟨rfl, hb⟩; refine ⟨_, rfl, ?_⟩; have n0_ := Aside0.mk (below_step (by repeat (first | (with_reducible first | exact HB.out | apply below_alloc | apply pw_below_drewN | apply below_drew1) | exact HB.out)) hb); clear HB; have HB := n0_; clear n0_; (try clear hb); (try clear hb2); (try clear hk); (try clear hi)))
    go_ret
    exact ⟨by first | rfl | (generalize ByteArray.toList _ = l_; cases l_ <;> rfl) | (simp [errW_none, errW_some] <;> rfl) | (simp [*, errW_none, errW_some] <;> rfl), by repeat (first | (with_reducible first | exact HB.out | apply below_alloc | apply pw_below_drewN | apply below_drew1) | exact HB.out)⟩

/-- THE ONE PURE STATEMENT of pantrylaw02_DateDays: yours. -/
def pantrylaw02_DateDays.Pure : Prop := ∀ (a0 : Int) (a1 : Int) (a2 : Int), (Lit.int .i64 a0).wf = true → (Lit.int .i64 a1).wf = true → (Lit.int .i64 a2).wf = true → ∃ k, pantrylaw02_DateDays.f k a0 a1 a2 = some true
theorem pantrylaw02_DateDays.walk (P : pantrylaw02_DateDays.Pure) (a0 : Int) (a1 : Int) (a2 : Int) (w : World) (w0 : (Lit.int .i64 a0).wf = true) (w1 : (Lit.int .i64 a1).wf = true) (w2 : (Lit.int .i64 a2).wf = true) (hrW : WF w) :
    Calls Try.prog 6 #[.int .i64 a0, .int .i64 a1, .int .i64 a2] w fun e w' => e = .returned (.bool true) ∧ Below w.heap.size w w' := by
  obtain ⟨k, h⟩ := P a0 a1 a2 w0 w1 w2
  refine (pantrylaw02_DateDays.calls k a0 a1 a2 true w hrW h).mono ?_
  rintro e w' ⟨rfl, hd⟩
  exact ⟨rfl, hd⟩

/-! ### pantrylaw02_DateOrder: function 7 -/
mutual
def pantrylaw02_DateOrder.j0 : Nat → Int → Bool → Option (Bool)
  | 0, _, _ => none
  | k + 1, x0, x20 => if x20 = true then (some true) else ((date_Split.f k x0).bind fun bt155 => ((date_Split.f k (wrap64 (x0 + 86400))).bind fun bt160 => (if bt160.2.2.2.2 = 0 then (pantrylaw02_DateOrder.j1 k bt155.1 bt155.2.1 bt155.2.2.1 bt160.1 bt160.2.1 bt160.2.2.1 (bt155.2.2.2.1 != bt160.2.2.2.1)) else (pantrylaw02_DateOrder.j1 k bt155.1 bt155.2.1 bt155.2.2.1 bt160.1 bt160.2.1 bt160.2.2.1 true))))
def pantrylaw02_DateOrder.j1 : Nat → Int → Int → Int → Int → Int → Int → Bool → Option (Bool)
  | 0, _, _, _, _, _, _, _ => none
  | k + 1, x3, x4, x5, x8, x9, x10, x44 => if x44 = true then (some false) else ((date_Days.f k x3 x4).bind fun t165 => (if x5 < t165 then (if x8 = x3 then (if x9 = x4 then (some (x10 == (wrap64 (x5 + 1)))) else (some false)) else (some false)) else (if x4 < 12 then (if x8 = x3 then (if x9 = (wrap64 (x4 + 1)) then (some (x10 == 1)) else (some false)) else (some false)) else (if x8 = (wrap64 (x3 + 1)) then (if x9 = 1 then (some (x10 == 1)) else (some false)) else (some false)))))
end
def pantrylaw02_DateOrder.f (k : Nat) (a0 : Int) : Option (Bool) := (pantrylaw02_anchor.f k).bind fun t154 => (if t154 = true then (if a0 < 0 then (pantrylaw02_DateOrder.j0 k a0 true) else (pantrylaw02_DateOrder.j0 k a0 (decide (a0 > 253402214399)))) else (some false))
theorem pantrylaw02_DateOrder.mono_l : ∀ k, (∀ y0 y1, LeO (pantrylaw02_DateOrder.j0 k y0 y1) (pantrylaw02_DateOrder.j0 (k + 1) y0 y1)) ∧ (∀ y0 y1 y2 y3 y4 y5 y6, LeO (pantrylaw02_DateOrder.j1 k y0 y1 y2 y3 y4 y5 y6) (pantrylaw02_DateOrder.j1 (k + 1) y0 y1 y2 y3 y4 y5 y6))
  | 0 => ⟨fun _ _ r h => by simp [pantrylaw02_DateOrder.j0] at h, fun _ _ _ _ _ _ _ r h => by simp [pantrylaw02_DateOrder.j1] at h⟩
  | k + 1 => by
    obtain ⟨ih0, ih1⟩ := pantrylaw02_DateOrder.mono_l k
    refine ⟨?_, ?_⟩
    · intro y0 y1
      unfold pantrylaw02_DateOrder.j0
      repeat' first
      | (with_reducible exact ih0 _ _)
      | (with_reducible exact ih1 _ _ _ _ _ _ _)
      | (with_reducible exact date_Days.mono _ _ _)
      | (with_reducible exact date_Split.mono _ _)
      | (with_reducible exact pantrylaw02_anchor.mono _)
      | (with_reducible exact LeO.refl _)
      | (with_reducible exact LeO.none _)
      | (with_reducible refine LeO.ite ?_ ?_)
      | (with_reducible refine LeO.bind ?_ (fun _ => ?_))
      | exact ih0 _ _
      | exact ih1 _ _ _ _ _ _ _
      | exact date_Days.mono _ _ _
      | exact date_Split.mono _ _
      | exact pantrylaw02_anchor.mono _
      | exact LeO.none _
      | refine LeO.ite ?_ ?_
      | refine LeO.bind ?_ (fun _ => ?_)
    · intro y0 y1 y2 y3 y4 y5 y6
      unfold pantrylaw02_DateOrder.j1
      repeat' first
      | (with_reducible exact ih0 _ _)
      | (with_reducible exact ih1 _ _ _ _ _ _ _)
      | (with_reducible exact date_Days.mono _ _ _)
      | (with_reducible exact date_Split.mono _ _)
      | (with_reducible exact pantrylaw02_anchor.mono _)
      | (with_reducible exact LeO.refl _)
      | (with_reducible exact LeO.none _)
      | (with_reducible refine LeO.ite ?_ ?_)
      | (with_reducible refine LeO.bind ?_ (fun _ => ?_))
      | exact ih0 _ _
      | exact ih1 _ _ _ _ _ _ _
      | exact date_Days.mono _ _ _
      | exact date_Split.mono _ _
      | exact pantrylaw02_anchor.mono _
      | exact LeO.none _
      | refine LeO.ite ?_ ?_
      | refine LeO.bind ?_ (fun _ => ?_)
theorem pantrylaw02_DateOrder.mono : ∀ a0 k, LeO (pantrylaw02_DateOrder.f k a0) (pantrylaw02_DateOrder.f (k + 1) a0) := by
  intro a0 k
  obtain ⟨ih0, ih1⟩ := pantrylaw02_DateOrder.mono_l k
  unfold pantrylaw02_DateOrder.f
  repeat' first
      | (with_reducible exact ih0 _ _)
      | (with_reducible exact ih1 _ _ _ _ _ _ _)
      | (with_reducible exact date_Days.mono _ _ _)
      | (with_reducible exact date_Split.mono _ _)
      | (with_reducible exact pantrylaw02_anchor.mono _)
      | (with_reducible exact LeO.refl _)
      | (with_reducible exact LeO.none _)
      | (with_reducible refine LeO.ite ?_ ?_)
      | (with_reducible refine LeO.bind ?_ (fun _ => ?_))
      | exact ih0 _ _
      | exact ih1 _ _ _ _ _ _ _
      | exact date_Days.mono _ _ _
      | exact date_Split.mono _ _
      | exact pantrylaw02_anchor.mono _
      | exact LeO.none _
      | refine LeO.ite ?_ ?_
      | refine LeO.bind ?_ (fun _ => ?_)
set_option maxHeartbeats 8000000 in
set_option maxRecDepth 100000 in
theorem pantrylaw02_DateOrder.calls (k : Nat) (a0 : Int) (r : Bool) (w : World) (hrW : WF w) (h : pantrylaw02_DateOrder.f k a0 = some r) :
    Calls Try.prog 7 #[.int .i64 a0] w fun e w' => e = .returned (.bool r) ∧ Below w.heap.size w w' := by
  have HRW := Aside0.mk hrW
  clear hrW
  have HB := Aside0.mk (Below.refl w.heap.size w)
  have H : ((pantrylaw02_anchor.f k).bind fun t154 => (if t154 = true then (if a0 < 0 then (pantrylaw02_DateOrder.j0 k a0 true) else (pantrylaw02_DateOrder.j0 k a0 (decide (a0 > 253402214399)))) else (some false))) = some r := h
  clear h
  replace H := Option.bind_eq_some_iff.mp H
  obtain ⟨t154, A20, H⟩ := H
  replace H : (if t154 = true then (if a0 < 0 then (pantrylaw02_DateOrder.j0 k a0 true) else (pantrylaw02_DateOrder.j0 k a0 (decide (a0 > 253402214399)))) else (some false)) = some r := H
  have A2 := Aside0.mk A20
  clear A20
  by_cases c3 : t154 = true
  · subst c3
    have H1 : (if a0 < 0 then (pantrylaw02_DateOrder.j0 k a0 true) else (pantrylaw02_DateOrder.j0 k a0 (decide (a0 > 253402214399)))) = some r := by rw [if_pos rfl] at H; exact H
    clear H
    have H := H1
    clear H1
    have HC4 := Aside0.mk H
    clear H
    go_enter Try.func7, Try.ntmps7
    go_upto_region 3 with (first | ((with_reducible refine gate_callee (f := 10) rfl ?_); refine goesL_ (some 13) rfl rfl Try.func10 (by kernel_rfl) rfl #[] rfl (by (try simp only [List.map_toArray, List.map_cons, List.map_nil]); first | done | rfl | (simp only [List.length_drop, List.length_take]; rfl)) ?_; (with_reducible refine (pantrylaw02_anchor.calls k  true _ ?side1 A2.out).mono ?_); (case side1 => repeat (first | exact HRW.out | (with_reducible refine Kd.C_alloc ?_ _) | (with_reducible refine Kd.C_drewN ?_ _) | (with_reducible refine Kd.C_drew ?_))); rintro e w5 ⟨rfl, hb⟩; refine ⟨_, rfl, ?_⟩; have n0_ := Aside0.mk (below_step (by repeat (first | (with_reducible first | exact HB.out | apply below_alloc | apply pw_below_drewN | apply below_drew1) | exact HB.out)) hb); clear HB; have HB := n0_; clear n0_; (try clear hb); (try clear hb2); (try clear hk); (try clear hi)))
    (try simp only [Act.put, List.setIfInBounds_toArray, List.set_cons_zero, List.set_cons_succ])
    go_cut [20] (fun v20 wc => ∃ (kq : Nat) (x20_3 : Bool), v20 = .bool x20_3 ∧ Aside0 (pantrylaw02_DateOrder.j0 kq a0 x20_3 = some r) ∧ Aside0 (kq ≤ k) ∧ Aside0 (Below w.heap.size w wc))
    case first =>
      have H := HC4.out
      clear HC4
      by_cases c6 : a0 < 0
      · rw [if_pos c6] at H
        have c6b0 : decide (a0 < 0) = true := decide_eq_true c6
        clear c6
        (first | rw [c6b0] | (simp only [i64_w, i32_w]; rw [c6b0]) | skip)
        have H' := Aside0.mk H
        clear H
        go_wp2
        go_meet
        case rel => exact ⟨_, (true), (by first | rfl | (simp; done) | (simp [*]; done)), H', ⟨by first | omega | exact Nat.le_refl _⟩, ⟨by repeat (first | (with_reducible first | exact HB.out | apply below_alloc | apply pw_below_drewN | apply below_drew1) | exact HB.out)⟩⟩
      · rw [if_neg c6] at H
        have c6b0 : decide (a0 < 0) = false := decide_eq_false c6
        clear c6
        (first | rw [c6b0] | (simp only [i64_w, i32_w]; rw [c6b0]) | skip)
        have H' := Aside0.mk H
        clear H
        go_wp2
        go_meet
        case rel => exact ⟨_, (decide (a0 > 253402214399)), (by first | rfl | (simp; done) | (simp [*]; done)), H', ⟨by first | omega | exact Nat.le_refl _⟩, ⟨by repeat (first | (with_reducible first | exact HB.out | apply below_alloc | apply pw_below_drewN | apply below_drew1) | exact HB.out)⟩⟩
    case rest =>
      clear HC4
      try clear c1
      try clear p2
      try clear c3
      try clear c6
      try clear c6b0
      obtain ⟨kq, x20_3, rfl, HA, HJ3, HB⟩ := hcut
      cases kq with
      | zero => exact absurd HA.out (by simp [pantrylaw02_DateOrder.j0])
      | succ kj3 =>
        have H := HA.out
        clear HA
        simp only [pantrylaw02_DateOrder.j0] at H
        by_cases c7 : x20_3 = true
        · subst c7
          have H1 : (some true) = some r := by rw [if_pos rfl] at H; exact H
          clear H
          have H := H1
          clear H1
          obtain rfl := Option.some.inj H
          go_wp2
          go_ret
          exact ⟨by first | rfl | (generalize ByteArray.toList _ = l_; cases l_ <;> rfl) | (simp [errW_none, errW_some] <;> rfl) | (simp [*, errW_none, errW_some] <;> rfl), by repeat (first | (with_reducible first | exact HB.out | apply below_alloc | apply pw_below_drewN | apply below_drew1) | exact HB.out)⟩
        · replace c7 := Bool.eq_false_iff.mpr c7
          subst c7
          have H1 : ((date_Split.f kj3 a0).bind fun bt155 => ((date_Split.f kj3 (wrap64 (a0 + 86400))).bind fun bt160 => (if bt160.2.2.2.2 = 0 then (pantrylaw02_DateOrder.j1 kj3 bt155.1 bt155.2.1 bt155.2.2.1 bt160.1 bt160.2.1 bt160.2.2.1 (bt155.2.2.2.1 != bt160.2.2.2.1)) else (pantrylaw02_DateOrder.j1 kj3 bt155.1 bt155.2.1 bt155.2.2.1 bt160.1 bt160.2.1 bt160.2.2.1 true)))) = some r := by rw [if_neg (show ¬ (false = true) by decide)] at H; exact H
          clear H
          have H := H1
          clear H1
          replace H := Option.bind_eq_some_iff.mp H
          obtain ⟨⟨t155, t156, t157, t158, t159⟩, A80, H⟩ := H
          replace H : ((date_Split.f kj3 (wrap64 (a0 + 86400))).bind fun bt160 => (if bt160.2.2.2.2 = 0 then (pantrylaw02_DateOrder.j1 kj3 t155 t156 t157 bt160.1 bt160.2.1 bt160.2.2.1 (t158 != bt160.2.2.2.1)) else (pantrylaw02_DateOrder.j1 kj3 t155 t156 t157 bt160.1 bt160.2.1 bt160.2.2.1 true))) = some r := H
          have A8 := Aside0.mk A80
          clear A80
          replace H := Option.bind_eq_some_iff.mp H
          obtain ⟨⟨t160, t161, t162, t163, t164⟩, A90, H⟩ := H
          replace H : (if t164 = 0 then (pantrylaw02_DateOrder.j1 kj3 t155 t156 t157 t160 t161 t162 (t158 != t163)) else (pantrylaw02_DateOrder.j1 kj3 t155 t156 t157 t160 t161 t162 true)) = some r := H
          have A9 := Aside0.mk A90
          clear A90
          have HC10 := Aside0.mk H
          clear H
          go_upto_region 7 with (first | ((with_reducible refine gate_callee (f := 12) rfl ?_); refine goesL_ (some 23) rfl rfl Try.func12 (by kernel_rfl) rfl #[.int .i64 a0] rfl (by (try simp only [List.map_toArray, List.map_cons, List.map_nil]); first | done | rfl | (simp only [List.length_drop, List.length_take]; rfl)) ?_; (with_reducible refine (date_Split.calls kj3 a0 t155 t156 t157 t158 t159 _ A8.out).mono ?_); rintro e w' ⟨rfl, ⟨nd, rfl⟩⟩; refine ⟨_, rfl, ?_⟩) | ((with_reducible refine gate_callee (f := 12) rfl ?_); refine goesL_ (some 32) rfl rfl Try.func12 (by kernel_rfl) rfl #[.int .i64 (wrap64 (a0 + 86400))] rfl (by (try simp only [List.map_toArray, List.map_cons, List.map_nil]); first | done | rfl | (simp only [List.length_drop, List.length_take]; rfl)) ?_; (with_reducible refine (date_Split.calls kj3 (wrap64 (a0 + 86400)) t160 t161 t162 t163 t164 _ A9.out).mono ?_); rintro e w' ⟨rfl, ⟨nd, rfl⟩⟩; refine ⟨_, rfl, ?_⟩))
          (try simp only [Act.put, List.setIfInBounds_toArray, List.set_cons_zero, List.set_cons_succ])
          go_cut [44] (fun v44 wc => ∃ (kq : Nat) (x44_9 : Bool), v44 = .bool x44_9 ∧ Aside0 (pantrylaw02_DateOrder.j1 kq t155 t156 t157 t160 t161 t162 x44_9 = some r) ∧ Aside0 (kq ≤ kj3) ∧ Aside0 (Below w.heap.size w wc))
          case first =>
            have H := HC10.out
            clear HC10
            by_cases c11 : t164 = 0
            · rw [if_pos c11] at H
              have c11b0 : (t164 == 0) = true := beq_iff_eq.mpr c11
              have c11b1 : (t164 != 0) = false := bne_eq_false_iff_eq.mpr c11
              clear c11
              (first | rw [c11b0] | (simp only [i64_w, i32_w]; rw [c11b0]) | skip)
              have H' := Aside0.mk H
              clear H
              go_wp2
              go_meet
              case rel => exact ⟨_, ((t158 != t163)), (by first | rfl | (simp; done) | (simp [*]; done)), H', ⟨by have := HJ3.out; first | omega | exact Nat.le_refl _⟩, ⟨by repeat (first | (with_reducible first | exact HB.out | apply below_alloc | apply pw_below_drewN | apply below_drew1) | exact HB.out)⟩⟩
            · rw [if_neg c11] at H
              have c11b0 : (t164 == 0) = false := beq_eq_false_iff_ne.mpr c11
              have c11b1 : (t164 != 0) = true := bne_iff_ne.mpr c11
              (first | rw [c11b0] | (simp only [i64_w, i32_w]; rw [c11b0]) | skip)
              have H' := Aside0.mk H
              clear H
              go_wp2
              go_meet
              case rel => exact ⟨_, (true), (by first | rfl | (simp; done) | (simp [*]; done)), H', ⟨by have := HJ3.out; first | omega | exact Nat.le_refl _⟩, ⟨by repeat (first | (with_reducible first | exact HB.out | apply below_alloc | apply pw_below_drewN | apply below_drew1) | exact HB.out)⟩⟩
          case rest =>
            clear HC10
            try clear c1
            try clear p2
            try clear c3
            try clear c6
            try clear c6b0
            try clear p6
            try clear c7
            try clear c10
            try clear c11
            try clear c11b0
            try clear c11b1
            try clear p2
            obtain ⟨kq, x44_9, rfl, HA, HJ9, HB⟩ := hcut
            cases kq with
            | zero => exact absurd HA.out (by simp [pantrylaw02_DateOrder.j1])
            | succ kj9 =>
              have H := HA.out
              clear HA
              simp only [pantrylaw02_DateOrder.j1] at H
              by_cases c12 : x44_9 = true
              · subst c12
                have H1 : (some false) = some r := by rw [if_pos rfl] at H; exact H
                clear H
                have H := H1
                clear H1
                obtain rfl := Option.some.inj H
                go_wp2
                go_ret
                exact ⟨by first | rfl | (generalize ByteArray.toList _ = l_; cases l_ <;> rfl) | (simp [errW_none, errW_some] <;> rfl) | (simp [*, errW_none, errW_some] <;> rfl), by repeat (first | (with_reducible first | exact HB.out | apply below_alloc | apply pw_below_drewN | apply below_drew1) | exact HB.out)⟩
              · replace c12 := Bool.eq_false_iff.mpr c12
                subst c12
                have H1 : ((date_Days.f kj9 t155 t156).bind fun t165 => (if t157 < t165 then (if t160 = t155 then (if t161 = t156 then (some (t162 == (wrap64 (t157 + 1)))) else (some false)) else (some false)) else (if t156 < 12 then (if t160 = t155 then (if t161 = (wrap64 (t156 + 1)) then (some (t162 == 1)) else (some false)) else (some false)) else (if t160 = (wrap64 (t155 + 1)) then (if t161 = 1 then (some (t162 == 1)) else (some false)) else (some false))))) = some r := by rw [if_neg (show ¬ (false = true) by decide)] at H; exact H
                clear H
                have H := H1
                clear H1
                replace H := Option.bind_eq_some_iff.mp H
                obtain ⟨t165, A130, H⟩ := H
                replace H : (if t157 < t165 then (if t160 = t155 then (if t161 = t156 then (some (t162 == (wrap64 (t157 + 1)))) else (some false)) else (some false)) else (if t156 < 12 then (if t160 = t155 then (if t161 = (wrap64 (t156 + 1)) then (some (t162 == 1)) else (some false)) else (some false)) else (if t160 = (wrap64 (t155 + 1)) then (if t161 = 1 then (some (t162 == 1)) else (some false)) else (some false)))) = some r := H
                have A13 := Aside0.mk A130
                clear A130
                by_cases c14 : t157 < t165
                · rw [if_pos c14] at H
                  have c14b0 : decide (t157 < t165) = true := decide_eq_true c14
                  clear c14
                  by_cases c15 : t160 = t155
                  · rw [if_pos c15] at H
                    have c15b0 : (t160 == t155) = true := beq_iff_eq.mpr c15
                    have c15b1 : (t160 != t155) = false := bne_eq_false_iff_eq.mpr c15
                    clear c15
                    by_cases c16 : t161 = t156
                    · rw [if_pos c16] at H
                      have c16b0 : (t161 == t156) = true := beq_iff_eq.mpr c16
                      have c16b1 : (t161 != t156) = false := bne_eq_false_iff_eq.mpr c16
                      clear c16
                      obtain rfl := Option.some.inj H
                      go_wp2_with (first | ((with_reducible refine gate_callee (f := 16) rfl ?_); refine goesL_ (some 48) rfl rfl Try.func16 (by kernel_rfl) rfl #[.int .i64 t155, .int .i64 t156] rfl (by (try simp only [List.map_toArray, List.map_cons, List.map_nil]); first | done | rfl | (simp only [List.length_drop, List.length_take]; rfl)) ?_; (with_reducible refine (date_Days.calls kj9 t155 t156 t165 _ A13.out).mono ?_); rintro e w' ⟨rfl, ⟨nd, rfl⟩⟩; refine ⟨_, rfl, ?_⟩))
                      go_ret
                      exact ⟨by first | rfl | (generalize ByteArray.toList _ = l_; cases l_ <;> rfl) | (simp [errW_none, errW_some] <;> rfl) | (simp [*, errW_none, errW_some] <;> rfl), by repeat (first | (with_reducible first | exact HB.out | apply below_alloc | apply pw_below_drewN | apply below_drew1) | exact HB.out)⟩
                    · rw [if_neg c16] at H
                      have c16b0 : (t161 == t156) = false := beq_eq_false_iff_ne.mpr c16
                      have c16b1 : (t161 != t156) = true := bne_iff_ne.mpr c16
                      obtain rfl := Option.some.inj H
                      go_wp2_with (first | ((with_reducible refine gate_callee (f := 16) rfl ?_); refine goesL_ (some 48) rfl rfl Try.func16 (by kernel_rfl) rfl #[.int .i64 t155, .int .i64 t156] rfl (by (try simp only [List.map_toArray, List.map_cons, List.map_nil]); first | done | rfl | (simp only [List.length_drop, List.length_take]; rfl)) ?_; (with_reducible refine (date_Days.calls kj9 t155 t156 t165 _ A13.out).mono ?_); rintro e w' ⟨rfl, ⟨nd, rfl⟩⟩; refine ⟨_, rfl, ?_⟩))
                      go_ret
                      exact ⟨by first | rfl | (generalize ByteArray.toList _ = l_; cases l_ <;> rfl) | (simp [errW_none, errW_some] <;> rfl) | (simp [*, errW_none, errW_some] <;> rfl), by repeat (first | (with_reducible first | exact HB.out | apply below_alloc | apply pw_below_drewN | apply below_drew1) | exact HB.out)⟩
                  · rw [if_neg c15] at H
                    have c15b0 : (t160 == t155) = false := beq_eq_false_iff_ne.mpr c15
                    have c15b1 : (t160 != t155) = true := bne_iff_ne.mpr c15
                    obtain rfl := Option.some.inj H
                    go_wp2_with (first | ((with_reducible refine gate_callee (f := 16) rfl ?_); refine goesL_ (some 48) rfl rfl Try.func16 (by kernel_rfl) rfl #[.int .i64 t155, .int .i64 t156] rfl (by (try simp only [List.map_toArray, List.map_cons, List.map_nil]); first | done | rfl | (simp only [List.length_drop, List.length_take]; rfl)) ?_; (with_reducible refine (date_Days.calls kj9 t155 t156 t165 _ A13.out).mono ?_); rintro e w' ⟨rfl, ⟨nd, rfl⟩⟩; refine ⟨_, rfl, ?_⟩))
                    go_ret
                    exact ⟨by first | rfl | (generalize ByteArray.toList _ = l_; cases l_ <;> rfl) | (simp [errW_none, errW_some] <;> rfl) | (simp [*, errW_none, errW_some] <;> rfl), by repeat (first | (with_reducible first | exact HB.out | apply below_alloc | apply pw_below_drewN | apply below_drew1) | exact HB.out)⟩
                · rw [if_neg c14] at H
                  have c14b0 : decide (t157 < t165) = false := decide_eq_false c14
                  clear c14
                  by_cases c17 : t156 < 12
                  · rw [if_pos c17] at H
                    have c17b0 : decide (t156 < 12) = true := decide_eq_true c17
                    clear c17
                    by_cases c18 : t160 = t155
                    · rw [if_pos c18] at H
                      have c18b0 : (t160 == t155) = true := beq_iff_eq.mpr c18
                      have c18b1 : (t160 != t155) = false := bne_eq_false_iff_eq.mpr c18
                      clear c18
                      by_cases c19 : t161 = (wrap64 (t156 + 1))
                      · rw [if_pos c19] at H
                        have c19b0 : (t161 == (wrap64 (t156 + 1))) = true := beq_iff_eq.mpr c19
                        have c19b1 : (t161 != (wrap64 (t156 + 1))) = false := bne_eq_false_iff_eq.mpr c19
                        clear c19
                        obtain rfl := Option.some.inj H
                        go_wp2_with (first | ((with_reducible refine gate_callee (f := 16) rfl ?_); refine goesL_ (some 48) rfl rfl Try.func16 (by kernel_rfl) rfl #[.int .i64 t155, .int .i64 t156] rfl (by (try simp only [List.map_toArray, List.map_cons, List.map_nil]); first | done | rfl | (simp only [List.length_drop, List.length_take]; rfl)) ?_; (with_reducible refine (date_Days.calls kj9 t155 t156 t165 _ A13.out).mono ?_); rintro e w' ⟨rfl, ⟨nd, rfl⟩⟩; refine ⟨_, rfl, ?_⟩))
                        go_ret
                        exact ⟨by first | rfl | (generalize ByteArray.toList _ = l_; cases l_ <;> rfl) | (simp [errW_none, errW_some] <;> rfl) | (simp [*, errW_none, errW_some] <;> rfl), by repeat (first | (with_reducible first | exact HB.out | apply below_alloc | apply pw_below_drewN | apply below_drew1) | exact HB.out)⟩
                      · rw [if_neg c19] at H
                        have c19b0 : (t161 == (wrap64 (t156 + 1))) = false := beq_eq_false_iff_ne.mpr c19
                        have c19b1 : (t161 != (wrap64 (t156 + 1))) = true := bne_iff_ne.mpr c19
                        obtain rfl := Option.some.inj H
                        go_wp2_with (first | ((with_reducible refine gate_callee (f := 16) rfl ?_); refine goesL_ (some 48) rfl rfl Try.func16 (by kernel_rfl) rfl #[.int .i64 t155, .int .i64 t156] rfl (by (try simp only [List.map_toArray, List.map_cons, List.map_nil]); first | done | rfl | (simp only [List.length_drop, List.length_take]; rfl)) ?_; (with_reducible refine (date_Days.calls kj9 t155 t156 t165 _ A13.out).mono ?_); rintro e w' ⟨rfl, ⟨nd, rfl⟩⟩; refine ⟨_, rfl, ?_⟩))
                        go_ret
                        exact ⟨by first | rfl | (generalize ByteArray.toList _ = l_; cases l_ <;> rfl) | (simp [errW_none, errW_some] <;> rfl) | (simp [*, errW_none, errW_some] <;> rfl), by repeat (first | (with_reducible first | exact HB.out | apply below_alloc | apply pw_below_drewN | apply below_drew1) | exact HB.out)⟩
                    · rw [if_neg c18] at H
                      have c18b0 : (t160 == t155) = false := beq_eq_false_iff_ne.mpr c18
                      have c18b1 : (t160 != t155) = true := bne_iff_ne.mpr c18
                      obtain rfl := Option.some.inj H
                      go_wp2_with (first | ((with_reducible refine gate_callee (f := 16) rfl ?_); refine goesL_ (some 48) rfl rfl Try.func16 (by kernel_rfl) rfl #[.int .i64 t155, .int .i64 t156] rfl (by (try simp only [List.map_toArray, List.map_cons, List.map_nil]); first | done | rfl | (simp only [List.length_drop, List.length_take]; rfl)) ?_; (with_reducible refine (date_Days.calls kj9 t155 t156 t165 _ A13.out).mono ?_); rintro e w' ⟨rfl, ⟨nd, rfl⟩⟩; refine ⟨_, rfl, ?_⟩))
                      go_ret
                      exact ⟨by first | rfl | (generalize ByteArray.toList _ = l_; cases l_ <;> rfl) | (simp [errW_none, errW_some] <;> rfl) | (simp [*, errW_none, errW_some] <;> rfl), by repeat (first | (with_reducible first | exact HB.out | apply below_alloc | apply pw_below_drewN | apply below_drew1) | exact HB.out)⟩
                  · rw [if_neg c17] at H
                    have c17b0 : decide (t156 < 12) = false := decide_eq_false c17
                    clear c17
                    by_cases c20 : t160 = (wrap64 (t155 + 1))
                    · rw [if_pos c20] at H
                      have c20b0 : (t160 == (wrap64 (t155 + 1))) = true := beq_iff_eq.mpr c20
                      have c20b1 : (t160 != (wrap64 (t155 + 1))) = false := bne_eq_false_iff_eq.mpr c20
                      clear c20
                      by_cases c21 : t161 = 1
                      · rw [if_pos c21] at H
                        have c21b0 : (t161 == 1) = true := beq_iff_eq.mpr c21
                        have c21b1 : (t161 != 1) = false := bne_eq_false_iff_eq.mpr c21
                        clear c21
                        obtain rfl := Option.some.inj H
                        go_wp2_with (first | ((with_reducible refine gate_callee (f := 16) rfl ?_); refine goesL_ (some 48) rfl rfl Try.func16 (by kernel_rfl) rfl #[.int .i64 t155, .int .i64 t156] rfl (by (try simp only [List.map_toArray, List.map_cons, List.map_nil]); first | done | rfl | (simp only [List.length_drop, List.length_take]; rfl)) ?_; (with_reducible refine (date_Days.calls kj9 t155 t156 t165 _ A13.out).mono ?_); rintro e w' ⟨rfl, ⟨nd, rfl⟩⟩; refine ⟨_, rfl, ?_⟩))
                        go_ret
                        exact ⟨by first | rfl | (generalize ByteArray.toList _ = l_; cases l_ <;> rfl) | (simp [errW_none, errW_some] <;> rfl) | (simp [*, errW_none, errW_some] <;> rfl), by repeat (first | (with_reducible first | exact HB.out | apply below_alloc | apply pw_below_drewN | apply below_drew1) | exact HB.out)⟩
                      · rw [if_neg c21] at H
                        have c21b0 : (t161 == 1) = false := beq_eq_false_iff_ne.mpr c21
                        have c21b1 : (t161 != 1) = true := bne_iff_ne.mpr c21
                        obtain rfl := Option.some.inj H
                        go_wp2_with (first | ((with_reducible refine gate_callee (f := 16) rfl ?_); refine goesL_ (some 48) rfl rfl Try.func16 (by kernel_rfl) rfl #[.int .i64 t155, .int .i64 t156] rfl (by (try simp only [List.map_toArray, List.map_cons, List.map_nil]); first | done | rfl | (simp only [List.length_drop, List.length_take]; rfl)) ?_; (with_reducible refine (date_Days.calls kj9 t155 t156 t165 _ A13.out).mono ?_); rintro e w' ⟨rfl, ⟨nd, rfl⟩⟩; refine ⟨_, rfl, ?_⟩))
                        go_ret
                        exact ⟨by first | rfl | (generalize ByteArray.toList _ = l_; cases l_ <;> rfl) | (simp [errW_none, errW_some] <;> rfl) | (simp [*, errW_none, errW_some] <;> rfl), by repeat (first | (with_reducible first | exact HB.out | apply below_alloc | apply pw_below_drewN | apply below_drew1) | exact HB.out)⟩
                    · rw [if_neg c20] at H
                      have c20b0 : (t160 == (wrap64 (t155 + 1))) = false := beq_eq_false_iff_ne.mpr c20
                      have c20b1 : (t160 != (wrap64 (t155 + 1))) = true := bne_iff_ne.mpr c20
                      obtain rfl := Option.some.inj H
                      go_wp2_with (first | ((with_reducible refine gate_callee (f := 16) rfl ?_); refine goesL_ (some 48) rfl rfl Try.func16 (by kernel_rfl) rfl #[.int .i64 t155, .int .i64 t156] rfl (by (try simp only [List.map_toArray, List.map_cons, List.map_nil]); first | done | rfl | (simp only [List.length_drop, List.length_take]; rfl)) ?_; (with_reducible refine (date_Days.calls kj9 t155 t156 t165 _ A13.out).mono ?_); rintro e w' ⟨rfl, ⟨nd, rfl⟩⟩; refine ⟨_, rfl, ?_⟩))
                      go_ret
                      exact ⟨by first | rfl | (generalize ByteArray.toList _ = l_; cases l_ <;> rfl) | (simp [errW_none, errW_some] <;> rfl) | (simp [*, errW_none, errW_some] <;> rfl), by repeat (first | (with_reducible first | exact HB.out | apply below_alloc | apply pw_below_drewN | apply below_drew1) | exact HB.out)⟩
  · replace c3 := Bool.eq_false_iff.mpr c3
    subst c3
    have H1 : (some false) = some r := by rw [if_neg (show ¬ (false = true) by decide)] at H; exact H
    clear H
    have H := H1
    clear H1
    obtain rfl := Option.some.inj H
    go_enter Try.func7, Try.ntmps7
    go_wp2_with (first | ((with_reducible refine gate_callee (f := 10) rfl ?_); refine goesL_ (some 13) rfl rfl Try.func10 (by kernel_rfl) rfl #[] rfl (by (try simp only [List.map_toArray, List.map_cons, List.map_nil]); first | done | rfl | (simp only [List.length_drop, List.length_take]; rfl)) ?_; (with_reducible refine (pantrylaw02_anchor.calls k  false _ ?side1 A2.out).mono ?_); (case side1 => repeat (first | exact HRW.out | (with_reducible refine Kd.C_alloc ?_ _) | (with_reducible refine Kd.C_drewN ?_ _) | (with_reducible refine Kd.C_drew ?_))); rintro e w22 ⟨rfl, hb⟩; refine ⟨_, rfl, ?_⟩; have n0_ := Aside0.mk (below_step (by repeat (first | (with_reducible first | exact HB.out | apply below_alloc | apply pw_below_drewN | apply below_drew1) | exact HB.out)) hb); clear HB; have HB := n0_; clear n0_; (try clear hb); (try clear hb2); (try clear hk); (try clear hi)))
    go_ret
    exact ⟨by first | rfl | (generalize ByteArray.toList _ = l_; cases l_ <;> rfl) | (simp [errW_none, errW_some] <;> rfl) | (simp [*, errW_none, errW_some] <;> rfl), by repeat (first | (with_reducible first | exact HB.out | apply below_alloc | apply pw_below_drewN | apply below_drew1) | exact HB.out)⟩

/-- THE ONE PURE STATEMENT of pantrylaw02_DateOrder: yours. -/
def pantrylaw02_DateOrder.Pure : Prop := ∀ (a0 : Int), (Lit.int .i64 a0).wf = true → ∃ k, pantrylaw02_DateOrder.f k a0 = some true
theorem pantrylaw02_DateOrder.walk (P : pantrylaw02_DateOrder.Pure) (a0 : Int) (w : World) (w0 : (Lit.int .i64 a0).wf = true) (hrW : WF w) :
    Calls Try.prog 7 #[.int .i64 a0] w fun e w' => e = .returned (.bool true) ∧ Below w.heap.size w w' := by
  obtain ⟨k, h⟩ := P a0 w0
  refine (pantrylaw02_DateOrder.calls k a0 true w hrW h).mono ?_
  rintro e w' ⟨rfl, hd⟩
  exact ⟨rfl, hd⟩

end Go.Proofs.Ytiaiengdncdiaaa.PAll
