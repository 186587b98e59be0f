import Derived.Test.YtiaiengdncdiaaaPAllx3
import Derived.Test.YtiaiengdncdiaaaPAllx4
import Derived.Test.YtiaiengdncdiaaaPAllx5
import Derived.Test.YtiaiengdncdiaaaPAllx6
import Derived.Lib.IndexMore
import Derived.Lib.IndexBytes
namespace Go.Proofs.Ytiaiengdncdiaaa.PAll
open Go.RowKit Go.Proofs.YtiaiengdncdiaaaW.PrintWords Go.Proofs.YtiaiengdncdiaaaW.PrintLast Go.Proofs.YtiaiengdncdiaaaW.PrintMore
set_option linter.unusedVariables false
set_option linter.unusedSimpArgs false

/-! ## Days, months and years, as numbers -/
theorem w64 {x : Int} (h0 : -9223372036854775808 ≤ x) (h1 : x ≤ 9223372036854775807) : wrap64 x = x := by unfold wrap64; omega
theorem tdiv_pos {a b : Int} (h : 0 ≤ a) : Int.tdiv a b = a / b := Int.tdiv_eq_ediv_of_nonneg h
theorem tmod_pos {a b : Int} (h : 0 ≤ a) : Int.tmod a b = a % b := Int.tmod_eq_emod_of_nonneg h
theorem tmod_zero (a b : Int) : Int.tmod a b = 0 ↔ a % b = 0 := by rw [← Int.dvd_iff_tmod_eq_zero, ← Int.dvd_iff_emod_eq_zero]
def leapP (y : Int) : Prop := (y % 4 = 0 ∧ y % 100 ≠ 0) ∨ y % 400 = 0
instance (y : Int) : Decidable (leapP y) := by unfold leapP; infer_instance
def lp (y : Int) : Int := if leapP y then 1 else 0
def mlen (y m : Int) : Int := if m = 2 then 28 + lp y else if m = 4 ∨ m = 6 ∨ m = 9 ∨ m = 11 then 30 else 31
def daysI (y m : Int) : Int := if y < 1970 ∨ 9999 < y ∨ m < 1 ∨ 12 < m then 0 else mlen y m
def ybef (y : Int) : Int := (y - 1) * 365 + (y - 1) / 4 - (y - 1) / 100 + (y - 1) / 400 - 719162
def mbef (y m : Int) : Int :=
  if m = 1 then 0 else if m = 2 then 31 else (if m = 3 then 59 else if m = 4 then 90 else if m = 5 then 120 else if m = 6 then 151 else if m = 7 then 181 else if m = 8 then 212 else if m = 9 then 243 else if m = 10 then 273 else if m = 11 then 304 else if m = 12 then 334 else 365) + lp y
theorem lp_01 (y : Int) : lp y = 0 ∨ lp y = 1 := by unfold lp; split <;> simp
theorem ybef_succ (y : Int) : ybef (y + 1) = ybef y + 365 + lp y := by
  unfold ybef lp
  by_cases h : leapP y
  · rw [if_pos h]
    unfold leapP at h
    omega
  · rw [if_neg h]
    unfold leapP at h
    omega
theorem mbef_succ (y m : Int) (h1 : 1 ≤ m) (h2 : m ≤ 12) : mbef y (m + 1) = mbef y m + mlen y m := by
  have hm : m = 1 ∨ m = 2 ∨ m = 3 ∨ m = 4 ∨ m = 5 ∨ m = 6 ∨ m = 7 ∨ m = 8 ∨ m = 9 ∨ m = 10 ∨ m = 11 ∨ m = 12 := by omega
  have := lp_01 y
  rcases hm with rfl | rfl | rfl | rfl | rfl | rfl | rfl | rfl | rfl | rfl | rfl | rfl <;> simp [mbef, mlen] <;> omega
theorem mbef_13 (y : Int) : mbef y 13 = 365 + lp y := by simp [mbef]
theorem mbef_1 (y : Int) : mbef y 1 = 0 := by simp [mbef]
theorem mlen_bd (y m : Int) : 28 ≤ mlen y m ∧ mlen y m ≤ 31 := by
  have := lp_01 y
  unfold mlen
  split
  · omega
  · split <;> omega
theorem mbef_bd (y m : Int) (h1 : 1 ≤ m) (h2 : m ≤ 13) : 0 ≤ mbef y m ∧ mbef y m ≤ 366 := by
  have hm : m = 1 ∨ m = 2 ∨ m = 3 ∨ m = 4 ∨ m = 5 ∨ m = 6 ∨ m = 7 ∨ m = 8 ∨ m = 9 ∨ m = 10 ∨ m = 11 ∨ m = 12 ∨ m = 13 := by omega
  have := lp_01 y
  rcases hm with rfl | rfl | rfl | rfl | rfl | rfl | rfl | rfl | rfl | rfl | rfl | rfl | rfl <;> simp [mbef] <;> omega
theorem ybef_mono {a b : Int} (h : a ≤ b) : ybef a ≤ ybef b := by unfold ybef; omega
theorem mbef_mono (y : Int) {a b : Int} (h1 : 1 ≤ a) (h : a ≤ b) (h2 : b ≤ 13) : mbef y a ≤ mbef y b := by
  have ha : a = 1 ∨ a = 2 ∨ a = 3 ∨ a = 4 ∨ a = 5 ∨ a = 6 ∨ a = 7 ∨ a = 8 ∨ a = 9 ∨ a = 10 ∨ a = 11 ∨ a = 12 ∨ a = 13 := by omega
  have hb : b = 1 ∨ b = 2 ∨ b = 3 ∨ b = 4 ∨ b = 5 ∨ b = 6 ∨ b = 7 ∨ b = 8 ∨ b = 9 ∨ b = 10 ∨ b = 11 ∨ b = 12 ∨ b = 13 := by omega
  have := lp_01 y
  rcases ha with rfl | rfl | rfl | rfl | rfl | rfl | rfl | rfl | rfl | rfl | rfl | rfl | rfl <;> rcases hb with rfl | rfl | rfl | rfl | rfl | rfl | rfl | rfl | rfl | rfl | rfl | rfl | rfl <;> first | omega | (simp [mbef] <;> omega)
/-- The time t is the day d of the month m of the year y, r seconds of it having passed. -/
structure IsDate (t y m d r : Int) : Prop where
  y0 : 1970 ≤ y
  y1 : y ≤ 9999
  m0 : 1 ≤ m
  m1 : m ≤ 12
  d0 : 1 ≤ d
  d1 : d ≤ mlen y m
  r0 : 0 ≤ r
  r1 : r < 86400
  eq : t = (ybef y + mbef y m + d - 1) * 86400 + r
theorem IsDate.range {t y m d r : Int} (h : IsDate t y m d r) : 0 ≤ t ∧ t ≤ 253402300799 := by
  have h1 := mbef_bd y m h.m0 (by have := h.m1; omega)
  have h2 := mbef_succ y m h.m0 h.m1
  have h3 := mbef_mono y (a := m + 1) (b := 13) (by have := h.m0; omega) (by have := h.m1; omega) (by omega)
  have h4 := ybef_succ y
  have h5 := ybef_mono (a := 1970) (b := y) h.y0
  have h6 := ybef_mono (a := y + 1) (b := 10000) (by have := h.y1; omega)
  have h7 : ybef 1970 = 0 := by decide
  have h8 : ybef 10000 = 2932897 := by decide
  have h9 := mbef_13 y
  have := h.d0; have := h.d1; have := h.r0; have := h.r1; have := h.eq
  omega
theorem IsDate.unique {t y m d r y' m' d' r' : Int} (h : IsDate t y m d r) (h' : IsDate t y' m' d' r') : y = y' ∧ m = m' ∧ d = d' ∧ r = r' := by
  have key : ∀ {y m d r}, IsDate t y m d r → ybef y ≤ t / 86400 ∧ t / 86400 < ybef (y + 1) ∧ mbef y m ≤ t / 86400 - ybef y ∧ t / 86400 - ybef y < mbef y (m + 1) ∧ d = t / 86400 - ybef y - mbef y m + 1 ∧ r = t % 86400 := by
    intro y m d r h
    have h1 := mbef_bd y m h.m0 (by have := h.m1; omega)
    have h2 := mbef_succ y m h.m0 h.m1
    have h3 := mbef_mono y (a := m + 1) (b := 13) (by have := h.m0; omega) (by have := h.m1; omega) (by omega)
    have h4 := ybef_succ y
    have h9 := mbef_13 y
    have := h.d0; have := h.d1; have := h.r0; have := h.r1; have := h.eq
    omega
  obtain ⟨a1, a2, a3, a4, a5, a6⟩ := key h
  obtain ⟨b1, b2, b3, b4, b5, b6⟩ := key h'
  have hy : y = y' := by
    rcases Int.lt_trichotomy y y' with hl | he | hg
    · have := ybef_mono (a := y + 1) (b := y') (by omega); omega
    · exact he
    · have := ybef_mono (a := y' + 1) (b := y) (by omega); omega
  subst hy
  have hm : m = m' := by
    rcases Int.lt_trichotomy m m' with hl | he | hg
    · have := mbef_mono y (a := m + 1) (b := m') (by have := h.m0; omega) (by omega) (by have := h'.m1; omega); omega
    · exact he
    · have := mbef_mono y (a := m' + 1) (b := m) (by have := h'.m0; omega) (by omega) (by have := h.m1; omega); omega
  subst hm
  omega

/-! ## What the printed functions come to -/
theorem leap_eval (y : Int) : date_leap.f y = some (decide (leapP y)) := by
  have h4 : Int.tmod y 4 = 0 ↔ y % 4 = 0 := tmod_zero y 4
  have h100 : Int.tmod y 100 = 0 ↔ y % 100 = 0 := tmod_zero y 100
  have h400 : Int.tmod y 400 = 0 ↔ y % 400 = 0 := tmod_zero y 400
  unfold date_leap.f leapP
  by_cases a : y % 4 = 0
  · rw [if_pos (h4.2 a)]
    by_cases b : y % 100 = 0
    · rw [if_pos (h100.2 b)]
      by_cases c : y % 400 = 0
      · simp [c, h400.2 c]
      · have : ¬ Int.tmod y 400 = 0 := fun h => c (h400.1 h)
        simp [b, c, this]
    · rw [if_neg (fun h => b (h100.1 h))]
      simp [a, b]
  · rw [if_neg (fun h => a (h4.1 h))]
    have c : ¬ y % 400 = 0 := by omega
    have : ¬ Int.tmod y 400 = 0 := fun h => c (h400.1 h)
    simp [a, c, this]
theorem days_eval (k : Nat) (hk : 3 ≤ k) (y m : Int) : date_Days.f k y m = some (daysI y m) := by
  obtain ⟨k, rfl⟩ : ∃ j, k = j + 1 + 1 := ⟨k - 2, by omega⟩
  unfold date_Days.f daysI
  have j0t : date_Days.j0 (k + 1 + 1) y m true = some 0 := by simp [date_Days.j0]
  by_cases a : y < 1970
  · rw [if_pos a, if_pos (.inl a), j0t]
  · rw [if_neg a]
    by_cases b : y > 9999
    · rw [if_pos b, if_pos (by omega), j0t]
    · rw [if_neg b]
      by_cases c : m < 1
      · rw [if_pos c, if_pos (by omega), j0t]
      · rw [if_neg c]
        by_cases d : m > 12
        · rw [if_pos (by omega), decide_eq_true d, j0t]
        · rw [if_neg (by omega), decide_eq_false d]
          simp only [date_Days.j0]
          rw [if_neg (by simp)]
          unfold mlen lp
          by_cases e : m = 2
          · rw [if_pos e, leap_eval]
            simp only [Option.bind_some, date_Days.j1]
            by_cases f : leapP y
            · simp [e, f]
            · simp [e, f]
          · rw [if_neg e]
            simp only [date_Days.j1]
            rw [if_neg (by simp), if_neg e, if_neg e]
            by_cases f4 : m = 4
            · simp [f4]
            · by_cases f6 : m = 6
              · simp [f6]
              · by_cases f9 : m = 9
                · simp [f9]
                · by_cases f11 : m = 11
                  · simp [f11]
                  · simp [f4, f6, f9, f11]
theorem before_eval (y : Int) (h0 : 1 ≤ y) (h1 : y ≤ 20000) : date_before.f y = some (ybef y) := by
  unfold date_before.f ybef
  have e1 : wrap64 (y - 1) = y - 1 := w64 (by omega) (by omega)
  rw [e1, tdiv_pos (by omega), tdiv_pos (by omega), tdiv_pos (by omega)]
  rw [w64 (x := (y - 1) * 365) (by omega) (by omega), w64 (x := (y - 1) / 4) (by omega) (by omega), w64 (x := (y - 1) / 100) (by omega) (by omega), w64 (x := (y - 1) / 400) (by omega) (by omega), w64 (x := (y - 1) * 365 + (y - 1) / 4) (by omega) (by omega), w64 (x := (y - 1) * 365 + (y - 1) / 4 - (y - 1) / 100) (by omega) (by omega), w64 (x := (y - 1) * 365 + (y - 1) / 4 - (y - 1) / 100 + (y - 1) / 400) (by omega) (by omega), w64 (by omega) (by omega)]

theorem daysI_in {y m : Int} (h0 : 1970 ≤ y) (h1 : y ≤ 9999) (h2 : 1 ≤ m) (h3 : m ≤ 12) : daysI y m = mlen y m := by
  unfold daysI; rw [if_neg (by omega)]
theorem split_l1 (t y D : Int) (ht0 : 0 ≤ t) (hD : D = t / 86400) (hy0 : 1970 ≤ y) (hy1 : y ≤ 9999) (hl : ybef y ≤ D) (hu : D < ybef (y + 1)) : ∀ (n : Nat) (m : Int) (k : Nat), m + n = 12 → 1 ≤ m → 0 ≤ D - ybef y - mbef y m → n + 10 < k →
    ∃ m' d', date_Split.l1 k t y m (D - ybef y - mbef y m) = some (y, m', d', t % 86400, 0) ∧ IsDate t y m' d' (t % 86400) := by
  intro n
  induction n with
  | zero =>
    intro m k hm h1 hr hk
    obtain rfl : m = 12 := by omega
    obtain ⟨k, rfl⟩ : ∃ j, k = j + 1 := ⟨k - 1, by omega⟩
    have hs := mbef_succ y 12 (by omega) (by omega)
    have h13 := mbef_13 y
    have hys := ybef_succ y
    have hb := mbef_bd y 12 (by omega) (by omega)
    have hlen := mlen_bd y 12
    have e13 : mbef y (12 + 1) = mbef y 13 := rfl
    refine ⟨12, D - ybef y - mbef y 12 + 1, ?_, ⟨hy0, hy1, by omega, by omega, by omega, by omega, by omega, by omega, by omega⟩⟩
    simp only [date_Split.l1]
    rw [days_eval k (by omega)]
    simp only [Option.bind_some]
    rw [daysI_in hy0 hy1 (by omega) (by omega), if_neg (by omega), w64 (by omega) (by omega), tmod_pos ht0]
  | succ n ih =>
    intro m k hm h1 hr hk
    obtain ⟨k, rfl⟩ : ∃ j, k = j + 1 := ⟨k - 1, by omega⟩
    have hs := mbef_succ y m (by omega) (by omega)
    have hys := ybef_succ y
    have hlp := lp_01 y
    have hb := mbef_bd y m (by omega) (by omega)
    have hlen := mlen_bd y m
    simp only [date_Split.l1]
    rw [days_eval k (by omega)]
    simp only [Option.bind_some]
    rw [daysI_in hy0 hy1 (by omega) (by omega)]
    by_cases hc : D - ybef y - mbef y m ≥ mlen y m
    · rw [if_pos hc, w64 (x := m + 1) (by omega) (by omega), w64 (by omega) (by omega)]
      have := ih (m + 1) k (by omega) (by omega) (by omega) (by omega)
      rw [hs] at this
      rw [show D - ybef y - mbef y m - mlen y m = D - ybef y - (mbef y m + mlen y m) from by omega]
      exact this
    · rw [if_neg hc, w64 (by omega) (by omega), tmod_pos ht0]
      exact ⟨m, D - ybef y - mbef y m + 1, rfl, ⟨hy0, hy1, by omega, by omega, by omega, by omega, by omega, by omega, by omega⟩⟩
theorem split_l0 (t D : Int) (ht0 : 0 ≤ t) (ht1 : t ≤ 253402300799) (hD : D = t / 86400) : ∀ (n : Nat) (y : Int) (k : Nat), y + n = 9999 → 1970 ≤ y → ybef y ≤ D → n + 40 < k →
    ∃ y' m' d', date_Split.l0 k t y D = some (y', m', d', t % 86400, 0) ∧ IsDate t y' m' d' (t % 86400) := by
  have hmax : ybef 10000 = 2932897 := by decide
  have h70 : ybef 1970 = 0 := by decide
  have fin : ∀ (y : Int) (k : Nat), 1970 ≤ y → y ≤ 9999 → ybef y ≤ D → D < ybef (y + 1) → 30 < k → ∃ y' m' d', ((date_before.f y).bind fun t103 => (date_Split.l1 k t y 1 (wrap64 (D - t103)))) = some (y', m', d', t % 86400, 0) ∧ IsDate t y' m' d' (t % 86400) := by
    intro y k hy0 hy1 hl hu hk
    rw [before_eval y (by omega) (by omega)]
    simp only [Option.bind_some]
    have hyb := ybef_mono (a := 1970) (b := y) hy0
    have hys := ybef_succ y
    rw [w64 (by omega) (by omega)]
    have := split_l1 t y D ht0 hD hy0 hy1 hl hu 11 1 k (by omega) (by omega) (by rw [mbef_1]; omega) (by omega)
    rw [mbef_1] at this
    simp only [Int.sub_zero] at this
    obtain ⟨m', d', h1, h2⟩ := this
    exact ⟨y, m', d', h1, h2⟩
  intro n
  induction n with
  | zero =>
    intro y k hy h1 hl hk
    obtain rfl : y = 9999 := by omega
    obtain ⟨k, rfl⟩ : ∃ j, k = j + 1 := ⟨k - 1, by omega⟩
    simp only [date_Split.l0]
    rw [w64 (x := (9999 : Int) + 1) (by omega) (by omega), before_eval (9999 + 1) (by omega) (by omega)]
    simp only [Option.bind_some]
    have e : ybef (9999 + 1) = ybef 10000 := rfl
    have hnle : ¬ ybef (9999 + 1) ≤ D := by rw [e, hmax]; omega
    rw [if_neg hnle]
    exact fin 9999 k (by omega) (by omega) hl (Int.not_le.1 hnle) (by omega)
  | succ n ih =>
    intro y k hy h1 hl hk
    obtain ⟨k, rfl⟩ : ∃ j, k = j + 1 := ⟨k - 1, by omega⟩
    simp only [date_Split.l0]
    rw [w64 (x := y + 1) (by omega) (by omega), before_eval (y + 1) (by omega) (by omega)]
    simp only [Option.bind_some]
    by_cases hc : ybef (y + 1) ≤ D
    · rw [if_pos hc]
      exact ih (y + 1) k (by omega) (by omega) hc (by omega)
    · rw [if_neg hc]
      exact fin y k h1 (by omega) hl (by omega) (by omega)
def KD : Nat := 9000
theorem split_eval (t : Int) (ht0 : 0 ≤ t) (ht1 : t ≤ 253402300799) (k : Nat) (hk : KD ≤ k) : ∃ y m d, date_Split.f k t = some (y, m, d, t % 86400, 0) ∧ IsDate t y m d (t % 86400) := by
  unfold KD at hk
  obtain ⟨k, rfl⟩ : ∃ j, k = j + 1 := ⟨k - 1, by omega⟩
  unfold date_Split.f
  rw [if_neg (by omega), decide_eq_false (by omega)]
  simp only [date_Split.j0]
  rw [if_neg (by simp), tdiv_pos ht0, w64 (x := t / 86400) (by omega) (by omega), tdiv_pos (by omega), w64 (x := t / 86400 / 366) (by omega) (by omega), w64 (by omega) (by omega)]
  refine split_l0 t (t / 86400) ht0 ht1 rfl (9999 - (1970 + t / 86400 / 366)).toNat _ k (by omega) (by omega) ?_ (by omega)
  unfold ybef
  omega
theorem split_none (t : Int) (h : t < 0 ∨ 253402300799 < t) (k : Nat) (hk : 1 ≤ k) : date_Split.f k t = some (0, 0, 0, 0, 11) := by
  obtain ⟨k, rfl⟩ : ∃ j, k = j + 1 := ⟨k - 1, by omega⟩
  unfold date_Split.f
  by_cases h0 : t < 0
  · rw [if_pos h0]; simp [date_Split.j0]
  · rw [if_neg h0, decide_eq_true (show t > 253402300799 by omega)]; simp [date_Split.j0]
theorem IsDate.exists (t : Int) (ht0 : 0 ≤ t) (ht1 : t ≤ 253402300799) : ∃ y m d, IsDate t y m d (t % 86400) := by
  obtain ⟨y, m, d, _, h⟩ := split_eval t ht0 ht1 KD (Nat.le_refl _)
  exact ⟨y, m, d, h⟩
theorem split_of {t y m d r : Int} (h : IsDate t y m d r) (k : Nat) (hk : KD ≤ k) : date_Split.f k t = some (y, m, d, r, 0) := by
  obtain ⟨y', m', d', e, h'⟩ := split_eval t h.range.1 h.range.2 k hk
  obtain ⟨rfl, rfl, rfl, rfl⟩ := h.unique h'
  exact e
/-- The text of a date. -/
def dateB (t y m d r : Int) : List UInt8 := partsB (showParts t y m d r)
theorem show_of {t y m d r : Int} (h : IsDate t y m d r) (k : Nat) (hk : KD ≤ k) : date_Show.f k t = some (⟨(dateB t y m d r).toArray⟩, 0) := by
  unfold date_Show.f
  rw [split_of h k hk]
  simp only [Option.bind_some]
  have hr := h.range
  have hm := mlen_bd y m
  rw [if_pos trivial, if_pos ⟨hr, ⟨by have := h.y0; omega, h.y1⟩, ⟨h.m0, h.m1⟩, ⟨by have := h.d0; omega, by have := h.d1; omega⟩, h.r0, by have := h.r1; omega⟩]
  rfl
theorem show_none (t : Int) (h : t < 0 ∨ 253402300799 < t) (k : Nat) (hk : 1 ≤ k) : date_Show.f k t = some (⟨#[]⟩, 11) := by
  unfold date_Show.f
  rw [split_none t h k hk]
  rfl

/-! ## Texts as lists of bytes -/
theorem bt_list (s : ByteArray) (i : Nat) (h : i < s.data.toList.length) : bt s (i : Int) = ((s.data.toList[i]).toNat : Int) := by
  have h' : i < s.size := by simpa using h
  unfold bt
  simp only [Int.toNat_natCast]
  rw [dif_pos h']
  rfl
theorem size_list (s : ByteArray) : s.size = s.data.toList.length := by simp
theorem ext_list (s : ByteArray) (a b : Nat) : (s.extract a b).data.toList = (s.data.toList.drop a).take (b - a) := by
  rw [ByteArray.data_extract, Array.toList_extract]
theorem toList_eq (s : ByteArray) : s.toList = s.data.toList := ByteArray.toList_eq s
theorem mk_list (l : List UInt8) : (⟨l.toArray⟩ : ByteArray).data.toList = l := by simp
theorem bytes_ext {a b : ByteArray} (h : a.data.toList = b.data.toList) : a = b := by
  cases a; cases b
  simp at h
  simpa using h
def digitsL : List UInt8 → Int → Int
  | [], n => n
  | c :: l, n => if c.toNat < 48 ∨ 57 < c.toNat then -1 else digitsL l (wrap64 (wrap64 (10 * n) + (((c.toNat : Int) - 48) % 256)))
theorem digits_l0 (s : ByteArray) (hs : s.size ≤ 1000) : ∀ (d : Nat) (i : Nat) (n : Int) (k : Nat), i + d = s.size → d < k →
    date_digits.l0 k s n (s.size : Int) (i : Int) = some (digitsL (s.data.toList.drop i) n) := by
  intro d
  induction d with
  | zero =>
    intro i n k hi hk
    obtain ⟨k, rfl⟩ : ∃ j, k = j + 1 := ⟨k - 1, by omega⟩
    simp only [date_digits.l0]
    rw [if_neg (by omega), List.drop_of_length_le (by rw [← size_list]; omega)]
    rfl
  | succ d ih =>
    intro i n k hi hk
    obtain ⟨k, rfl⟩ : ∃ j, k = j + 1 := ⟨k - 1, by omega⟩
    have hlt : i < s.data.toList.length := by rw [← size_list]; omega
    simp only [date_digits.l0]
    rw [if_pos (by omega), if_pos (by omega), if_pos (by omega), List.drop_eq_getElem_cons hlt, bt_list s i hlt]
    simp only [digitsL]
    by_cases h1 : (s.data.toList[i]).toNat < 48
    · rw [if_pos (by omega), if_pos (.inl h1)]
    · rw [if_neg (by omega)]
      by_cases h2 : 57 < (s.data.toList[i]).toNat
      · rw [if_pos (by omega), if_pos (.inr h2)]
      · rw [if_neg (by omega), if_neg (by omega)]
        have := ih (i + 1) (wrap64 (wrap64 (10 * n) + (((s.data.toList[i]).toNat : Int) - 48) % 256)) k (by omega) (by omega)
        rw [← this, w64 (x := (i : Int) + 1) (by omega) (by omega)]
        rfl
theorem digits_eval (s : ByteArray) (hs : s.size ≤ 1000) (k : Nat) (hk : KD ≤ k) : date_digits.f k s = some (digitsL s.data.toList 0) := by
  unfold KD at hk
  unfold date_digits.f
  have := digits_l0 s hs s.size 0 0 k (by omega) (by omega)
  simpa using this
/-- A sign of a digit. -/
def dg (x : Int) : UInt8 := (48 + x % 10).toNat.toUInt8
theorem dg_nat (x : Int) : ((dg x).toNat : Int) = 48 + x % 10 := by
  unfold dg
  have h0 : 0 ≤ x % 10 := by omega
  have h1 : x % 10 < 10 := by omega
  generalize x % 10 = z at *
  obtain ⟨n, rfl⟩ := Int.eq_ofNat_of_zero_le h0
  have e : ((48 : Int) + (n : Int)).toNat = 48 + n := by omega
  rw [e]
  simp
  omega
theorem digitsL_dg (x n : Int) (l : List UInt8) (h0 : 0 ≤ n) (h1 : n ≤ 1000000) : digitsL (dg x :: l) n = digitsL l (10 * n + x % 10) := by
  have e := dg_nat x
  have b0 : 0 ≤ x % 10 := by omega
  have b1 : x % 10 < 10 := by omega
  simp only [digitsL]
  rw [if_neg (by omega), w64 (x := 10 * n) (by omega) (by omega), e, show (48 + x % 10 - 48) % 256 = x % 10 by omega, w64 (by omega) (by omega)]
theorem numB2 (v : Int) : numB v 10 = [dg (v / 10), dg v] := by
  rw [numB_step _ _ (by omega), numB_step _ _ (by omega), numB_zero _ _ (by omega)]
  unfold dg
  simp
theorem numB4 (v : Int) : numB v 1000 = [dg (v / 1000), dg (v / 100), dg (v / 10), dg v] := by
  rw [numB_step _ _ (by omega), numB_step _ _ (by omega), numB_step _ _ (by omega), numB_step _ _ (by omega), numB_zero _ _ (by omega)]
  unfold dg
  simp
theorem digits2 (v : Int) (h0 : 0 ≤ v) (h1 : v ≤ 99) : digitsL [dg (v / 10), dg v] 0 = v := by
  rw [digitsL_dg _ _ _ (by omega) (by omega), digitsL_dg _ _ _ (by omega) (by omega)]
  simp only [digitsL]
  omega
theorem digits4 (v : Int) (h0 : 0 ≤ v) (h1 : v ≤ 9999) : digitsL [dg (v / 1000), dg (v / 100), dg (v / 10), dg v] 0 = v := by
  rw [digitsL_dg _ _ _ (by omega) (by omega), digitsL_dg _ _ _ (by omega) (by omega), digitsL_dg _ _ _ (by omega) (by omega), digitsL_dg _ _ _ (by omega) (by omega)]
  simp only [digitsL]
  omega
theorem digitsL_bd : ∀ (l : List UInt8) (n b : Int), 0 ≤ n → n ≤ b → b ≤ 100000 → l.length ≤ 1 → (digitsL l n = -1 ∨ (0 ≤ digitsL l n ∧ digitsL l n ≤ 10 * b + 9)) := by
  intro l n b h0 h1 h2 hl
  match l, hl with
  | [], _ => simp only [digitsL]; omega
  | [c], _ =>
    simp only [digitsL]
    split
    · exact .inl rfl
    · rename_i hc
      rw [w64 (x := 10 * n) (by omega) (by omega), w64 (by omega) (by omega)]
      omega
theorem digitsL_cons (c : UInt8) (l : List UInt8) (n b : Int) (h0 : 0 ≤ n) (h1 : n ≤ b) (h2 : b ≤ 100000) : digitsL (c :: l) n = -1 ∨ ∃ n', 0 ≤ n' ∧ n' ≤ 10 * b + 9 ∧ digitsL (c :: l) n = digitsL l n' := by
  simp only [digitsL]
  split
  · exact .inl rfl
  · rename_i hc
    rw [w64 (x := 10 * n) (by omega) (by omega)]
    refine .inr ⟨_, ?_, ?_, rfl⟩ <;> rw [w64 (by omega) (by omega)] <;> omega
theorem digits2_bd (a b : UInt8) : -1 ≤ digitsL [a, b] 0 ∧ digitsL [a, b] 0 ≤ 99 := by
  rcases digitsL_cons a [b] 0 0 (by omega) (by omega) (by omega) with h | ⟨n, h0, h1, h⟩
  · omega
  · rw [h]
    rcases digitsL_bd [b] n 9 h0 (by omega) (by omega) (by simp) with h | h <;> omega
theorem digits4_bd (a b c d : UInt8) : -1 ≤ digitsL [a, b, c, d] 0 ∧ digitsL [a, b, c, d] 0 ≤ 9999 := by
  rcases digitsL_cons a [b, c, d] 0 0 (by omega) (by omega) (by omega) with h | ⟨n, h0, h1, h⟩
  · omega
  · rw [h]
    rcases digitsL_cons b [c, d] n 9 h0 (by omega) (by omega) with h | ⟨n, h0, h1, h⟩
    · omega
    · rw [h]
      rcases digitsL_cons c [d] n 99 h0 (by omega) (by omega) with h | ⟨n, h0, h1, h⟩
      · omega
      · rw [h]
        rcases digitsL_bd [d] n 999 h0 (by omega) (by omega) (by simp) with h | h <;> omega
/-! ## The text of a date, sign by sign -/
def wdB (q : Int) : List UInt8 := if q = 0 then [84, 104, 117] else if q = 1 then [70, 114, 105] else if q = 2 then [83, 97, 116] else if q = 3 then [83, 117, 110] else if q = 4 then [77, 111, 110] else if q = 5 then [84, 117, 101] else [87, 101, 100]
def moB (m : Int) : List UInt8 := if m = 1 then [74, 97, 110] else if m = 2 then [70, 101, 98] else if m = 3 then [77, 97, 114] else if m = 4 then [65, 112, 114] else if m = 5 then [77, 97, 121] else if m = 6 then [74, 117, 110] else if m = 7 then [74, 117, 108] else if m = 8 then [65, 117, 103] else if m = 9 then [83, 101, 112] else if m = 10 then [79, 99, 116] else if m = 11 then [78, 111, 118] else [68, 101, 99]
theorem wd_ext (q : Int) (h0 : 0 ≤ q) (h1 : q ≤ 6) : (weekB.extract (q * 3).toNat (q * 3 + 3).toNat).data.toList = wdB q := by
  have hq : q = 0 ∨ q = 1 ∨ q = 2 ∨ q = 3 ∨ q = 4 ∨ q = 5 ∨ q = 6 := by omega
  rw [ext_list]
  rcases hq with rfl | rfl | rfl | rfl | rfl | rfl | rfl <;> rfl
theorem mo_ext (m : Int) (h0 : 1 ≤ m) (h1 : m ≤ 12) : (monthB.extract (3 * m - 3).toNat (3 * m - 3 + 3).toNat).data.toList = moB m := by
  have hm : m = 1 ∨ m = 2 ∨ m = 3 ∨ m = 4 ∨ m = 5 ∨ m = 6 ∨ m = 7 ∨ m = 8 ∨ m = 9 ∨ m = 10 ∨ m = 11 ∨ m = 12 := by omega
  rw [ext_list]
  rcases hm with rfl | rfl | rfl | rfl | rfl | rfl | rfl | rfl | rfl | rfl | rfl | rfl <;> rfl
theorem wd_three (q : Int) : ∃ a b c, wdB q = [a, b, c] := by
  unfold wdB
  repeat' first | exact ⟨_, _, _, rfl⟩ | split
theorem three_of {l : List UInt8} (h : l.length = 3) : ∃ a b c, l = [a, b, c] := by
  match l, h with
  | [a, b, c], _ => exact ⟨a, b, c, rfl⟩
theorem mo_three (m : Int) : ∃ a b c, moB m = [a, b, c] := by
  refine three_of ?_
  unfold moB
  repeat (first | rfl | (rw [apply_ite List.length]; split) | split)
theorem mo_index (m : Int) (h0 : 1 ≤ m) (h1 : m ≤ 12) : Lib.index monthB.data.toList (moB m) = 3 * m - 3 := by
  have hm : m = 1 ∨ m = 2 ∨ m = 3 ∨ m = 4 ∨ m = 5 ∨ m = 6 ∨ m = 7 ∨ m = 8 ∨ m = 9 ∨ m = 10 ∨ m = 11 ∨ m = 12 := by omega
  rcases hm with rfl | rfl | rfl | rfl | rfl | rfl | rfl | rfl | rfl | rfl | rfl | rfl <;> decide +kernel
theorem dateB_eq {t y m d r : Int} (h : IsDate t y m d r) : dateB t y m d r =
    wdB (t / 86400 % 7) ++ [44, 32, dg (d / 10), dg d, 32] ++ moB m ++ [32, dg (y / 1000), dg (y / 100), dg (y / 10), dg y, 32, dg (r / 3600 / 10), dg (r / 3600), 58, dg (r / 60 % 60 / 10), dg (r / 60 % 60), 58, dg (r % 60 / 10), dg (r % 60), 32, 71, 77, 84] := by
  have hr := h.range
  unfold dateB partsB showParts
  simp only [List.map_cons, List.map_nil, PPart.bytes, List.flatten_cons, List.flatten_nil, if_true, if_neg (show ¬ (4 : Int) = 2 by decide), numB2, numB4]
  rw [wd_ext _ (by omega) (by omega), mo_ext _ h.m0 h.m1]
  simp
theorem dateB_len {t y m d r : Int} (h : IsDate t y m d r) : (dateB t y m d r).length = 29 := by
  rw [dateB_eq h]
  obtain ⟨a, b, c, e⟩ := wd_three (t / 86400 % 7)
  obtain ⟨a', b', c', e'⟩ := mo_three m
  rw [e, e']
  rfl

/-! ## Reading a date -/
theorem read_l0 (s : ByteArray) (ix y d h mi se : Int) (hix0 : 0 ≤ ix) (hix1 : ix ≤ 35) (hh0 : 0 ≤ h) (hh1 : h ≤ 23) (hm0 : 0 ≤ mi) (hm1 : mi ≤ 59) (hs0 : 0 ≤ se) (hs1 : se ≤ 59)
    (H : IsDate ((ybef y + mbef y (ix / 3 + 1) + d - 1) * 86400 + (h * 3600 + mi * 60 + se)) y (ix / 3 + 1) d (h * 3600 + mi * 60 + se)) : ∀ (n : Nat) (x : Int) (k : Nat), x + n = ix / 3 + 1 → 1 ≤ x → KD + n + 2 ≤ k →
    date_Read.l0 k s ix y h mi se (ybef y + d - 1 + mbef y x) x =
      if dateB ((ybef y + mbef y (ix / 3 + 1) + d - 1) * 86400 + (h * 3600 + mi * 60 + se)) y (ix / 3 + 1) d (h * 3600 + mi * 60 + se) = s.data.toList then some ((ybef y + mbef y (ix / 3 + 1) + d - 1) * 86400 + (h * 3600 + mi * 60 + se), 0) else some (0, 14) := by
  have hr := H.range
  have hyb := ybef_mono (a := 1970) (b := y) H.y0
  have hyt := ybef_mono (a := y) (b := 9999) H.y1
  have h70 : ybef 1970 = 0 := by decide
  have h99 : ybef 9999 = 2932532 := by decide
  have hd1 := (mlen_bd y (ix / 3 + 1)).2
  have := H.d0; have := H.d1
  intro n
  induction n with
  | zero =>
    intro x k hx h1 hk
    obtain ⟨k, rfl⟩ : ∃ j, k = j + 1 := ⟨k - 1, by omega⟩
    obtain rfl : x = ix / 3 + 1 := by omega
    have hb := mbef_bd y (ix / 3 + 1) (by omega) (by omega)
    simp only [date_Read.l0]
    rw [tdiv_pos hix0, w64 (x := ix / 3) (by omega) (by omega), if_neg (by omega)]
    have e1 : wrap64 ((ybef y + d - 1 + mbef y (ix / 3 + 1)) * 86400) = (ybef y + d - 1 + mbef y (ix / 3 + 1)) * 86400 := w64 (by omega) (by omega)
    have e2 : wrap64 (h * 3600) = h * 3600 := w64 (by omega) (by omega)
    have e3 : wrap64 (mi * 60) = mi * 60 := w64 (by omega) (by omega)
    rw [e1, e2, e3]
    have e4 : wrap64 ((ybef y + d - 1 + mbef y (ix / 3 + 1)) * 86400 + h * 3600) = (ybef y + d - 1 + mbef y (ix / 3 + 1)) * 86400 + h * 3600 := w64 (by omega) (by omega)
    rw [e4]
    have e5 : wrap64 ((ybef y + d - 1 + mbef y (ix / 3 + 1)) * 86400 + h * 3600 + mi * 60) = (ybef y + d - 1 + mbef y (ix / 3 + 1)) * 86400 + h * 3600 + mi * 60 := w64 (by omega) (by omega)
    rw [e5]
    have e6 : wrap64 ((ybef y + d - 1 + mbef y (ix / 3 + 1)) * 86400 + h * 3600 + mi * 60 + se) = (ybef y + mbef y (ix / 3 + 1) + d - 1) * 86400 + (h * 3600 + mi * 60 + se) := by rw [w64 (by omega) (by omega)]; omega
    rw [e6, show_of H k (by omega)]
    simp only [Option.bind_some, toList_eq, mk_list]
  | succ n ih =>
    intro x k hx h1 hk
    obtain ⟨k, rfl⟩ : ∃ j, k = j + 1 := ⟨k - 1, by omega⟩
    have hb := mbef_bd y x (by omega) (by omega)
    have hsu := mbef_succ y x (by omega) (by omega)
    have hml := mlen_bd y x
    simp only [date_Read.l0]
    rw [tdiv_pos hix0, w64 (x := ix / 3) (by omega) (by omega), if_pos (by omega), days_eval k (by unfold KD at hk; omega)]
    simp only [Option.bind_some]
    rw [daysI_in H.y0 H.y1 (by omega) (by omega), w64 (x := x + 1) (by omega) (by omega), w64 (by omega) (by omega)]
    have := ih (x + 1) k (by omega) (by omega) (by omega)
    rw [hsu] at this
    rw [show ybef y + d - 1 + mbef y x + mlen y x = ybef y + d - 1 + (mbef y x + mlen y x) from by omega]
    exact this
/-- What stands at the places of a text of 29 bytes. -/
def fIx (s : ByteArray) : Int := Lib.index monthB.data.toList ((s.data.toList.drop 8).take 3)
def fN (s : ByteArray) (a n : Nat) : Int := digitsL ((s.data.toList.drop a).take n) 0
def fBad (s : ByteArray) : Prop := fIx s < 0 ∨ fIx s % 3 ≠ 0 ∨ fN s 5 2 < 1 ∨ daysI (fN s 12 4) (fIx s / 3 + 1) < fN s 5 2 ∨ fN s 17 2 < 0 ∨ 23 < fN s 17 2 ∨ fN s 20 2 < 0 ∨ 59 < fN s 20 2 ∨ fN s 23 2 < 0 ∨ 59 < fN s 23 2
theorem fIx_le (s : ByteArray) : fIx s ≤ 36 := by
  have := Lib.index_le monthB.data.toList ((s.data.toList.drop 8).take 3)
  exact this
theorem read_small (s : ByteArray) (h : s.size ≠ 29) (k : Nat) : date_Read.f k s = some (0, 14) := by
  unfold date_Read.f
  rw [if_neg (by omega)]
theorem read_j0t (s : ByteArray) (a b c d e f : Int) (k : Nat) (hk : 1 ≤ k) : date_Read.j0 k s a b c d e f true = some (0, 14) := by
  obtain ⟨k, rfl⟩ : ∃ j, k = j + 1 := ⟨k - 1, by omega⟩
  simp [date_Read.j0]
theorem read_29 (s : ByteArray) (h : s.size = 29) (k : Nat) (hk : KD ≤ k) :
    (fBad s → date_Read.f k s = some (0, 14)) ∧ (¬ fBad s → date_Read.f k s = date_Read.j0 k s (fIx s) (fN s 12 4) (fN s 5 2) (fN s 17 2) (fN s 20 2) (fN s 23 2) false) := by
  have hk1 : 1 ≤ k := by unfold KD at hk; omega
  have dig : ∀ a b, b ≤ 29 → date_digits.f k (s.extract a b) = some (fN s a (b - a)) := by
    intro a b hb
    rw [digits_eval _ (by rw [ByteArray.size_extract]; omega) k hk, ext_list]
    rfl
  have hidx : strings_Index.f (⟨#[74, 97, 110, 70, 101, 98, 77, 97, 114, 65, 112, 114, 77, 97, 121, 74, 117, 110, 74, 117, 108, 65, 117, 103, 83, 101, 112, 79, 99, 116, 78, 111, 118, 68, 101, 99]⟩ : ByteArray) (s.extract 8 11) = some (fIx s) := by
    unfold strings_Index.f
    rw [if_pos (by decide), ext_list]
    rfl
  have hile := fIx_le s
  unfold date_Read.f
  rw [if_pos (by omega), if_pos (by omega), if_pos (by omega), hidx]
  simp only [Option.bind_some]
  rw [if_pos (by omega), if_pos (by omega), dig 12 16 (by omega)]
  simp only [Option.bind_some]
  rw [if_pos (by omega), if_pos (by omega), dig 5 7 (by omega)]
  simp only [Option.bind_some]
  rw [if_pos (by omega), if_pos (by omega), dig 17 19 (by omega)]
  simp only [Option.bind_some]
  rw [if_pos (by omega), if_pos (by omega), dig 20 22 (by omega)]
  simp only [Option.bind_some]
  rw [if_pos (by omega), if_pos (by omega), dig 23 25 (by omega)]
  simp only [Option.bind_some, Nat.reduceSub]
  unfold fBad
  by_cases c1 : fIx s < 0
  · rw [if_pos c1, read_j0t _ _ _ _ _ _ _ k hk1]
    exact ⟨fun _ => rfl, fun hn => absurd (.inl c1) hn⟩
  · rw [if_neg c1]
    by_cases c2 : fIx s % 3 = 0
    · rw [if_pos ((tmod_zero _ _).2 c2)]
      by_cases c3 : fN s 5 2 < 1
      · rw [if_pos c3, read_j0t _ _ _ _ _ _ _ k hk1]
        exact ⟨fun _ => rfl, fun hn => absurd (.inr (.inr (.inl c3))) hn⟩
      · rw [if_neg c3, tdiv_pos (by omega), w64 (x := fIx s / 3) (by omega) (by omega), w64 (by omega) (by omega), days_eval k (by unfold KD at hk; omega)]
        simp only [Option.bind_some]
        by_cases c4 : fN s 5 2 > daysI (fN s 12 4) (fIx s / 3 + 1)
        · rw [if_pos c4, read_j0t _ _ _ _ _ _ _ k hk1]
          exact ⟨fun _ => rfl, fun hn => absurd (.inr (.inr (.inr (.inl c4)))) hn⟩
        · rw [if_neg c4]
          by_cases c5 : fN s 17 2 < 0
          · rw [if_pos c5, read_j0t _ _ _ _ _ _ _ k hk1]
            exact ⟨fun _ => rfl, fun hn => absurd (.inr (.inr (.inr (.inr (.inl c5))))) hn⟩
          · rw [if_neg c5]
            by_cases c6 : fN s 17 2 > 23
            · rw [if_pos c6, read_j0t _ _ _ _ _ _ _ k hk1]
              exact ⟨fun _ => rfl, fun hn => absurd (.inr (.inr (.inr (.inr (.inr (.inl c6)))))) hn⟩
            · rw [if_neg c6]
              by_cases c7 : fN s 20 2 < 0
              · rw [if_pos c7, read_j0t _ _ _ _ _ _ _ k hk1]
                exact ⟨fun _ => rfl, fun hn => absurd (.inr (.inr (.inr (.inr (.inr (.inr (.inl c7))))))) hn⟩
              · rw [if_neg c7]
                by_cases c8 : fN s 20 2 > 59
                · rw [if_pos c8, read_j0t _ _ _ _ _ _ _ k hk1]
                  exact ⟨fun _ => rfl, fun hn => absurd (.inr (.inr (.inr (.inr (.inr (.inr (.inr (.inl c8)))))))) hn⟩
                · rw [if_neg c8]
                  by_cases c9 : fN s 23 2 < 0
                  · rw [if_pos c9, read_j0t _ _ _ _ _ _ _ k hk1]
                    exact ⟨fun _ => rfl, fun hn => absurd (.inr (.inr (.inr (.inr (.inr (.inr (.inr (.inr (.inl c9))))))))) hn⟩
                  · rw [if_neg c9]
                    by_cases c10 : fN s 23 2 > 59
                    · rw [decide_eq_true c10, read_j0t _ _ _ _ _ _ _ k hk1]
                      exact ⟨fun _ => rfl, fun hn => absurd (.inr (.inr (.inr (.inr (.inr (.inr (.inr (.inr (.inr c10))))))))) hn⟩
                    · rw [decide_eq_false c10]
                      refine ⟨fun hb => ?_, fun _ => rfl⟩
                      omega
    · rw [if_neg (fun h => c2 ((tmod_zero _ _).1 h)), read_j0t _ _ _ _ _ _ _ k hk1]
      exact ⟨fun _ => rfl, fun hn => absurd (.inr (.inl c2)) hn⟩
theorem read_good (s : ByteArray) (h : s.size = 29) (hg : ¬ fBad s) (k : Nat) (hk : KD + 20 ≤ k) :
    ∃ t y m d r, IsDate t y m d r ∧ m = fIx s / 3 + 1 ∧ y = fN s 12 4 ∧ d = fN s 5 2 ∧ r = fN s 17 2 * 3600 + fN s 20 2 * 60 + fN s 23 2 ∧ date_Read.f k s = if dateB t y m d r = s.data.toList then some (t, 0) else some (0, 14) := by
  rw [(read_29 s h k (by omega)).2 hg]
  obtain ⟨k, rfl⟩ : ∃ j, k = j + 1 := ⟨k - 1, by omega⟩
  unfold fBad at hg
  have hdays : fN s 5 2 ≤ daysI (fN s 12 4) (fIx s / 3 + 1) := by omega
  have hin : ¬ (fN s 12 4 < 1970 ∨ 9999 < fN s 12 4 ∨ fIx s / 3 + 1 < 1 ∨ 12 < fIx s / 3 + 1) := by
    intro hn
    unfold daysI at hdays
    rw [if_pos hn] at hdays
    omega
  rw [daysI_in (by omega) (by omega) (by omega) (by omega)] at hdays
  have hml := mlen_bd (fN s 12 4) (fIx s / 3 + 1)
  have H : IsDate ((ybef (fN s 12 4) + mbef (fN s 12 4) (fIx s / 3 + 1) + fN s 5 2 - 1) * 86400 + (fN s 17 2 * 3600 + fN s 20 2 * 60 + fN s 23 2)) (fN s 12 4) (fIx s / 3 + 1) (fN s 5 2) (fN s 17 2 * 3600 + fN s 20 2 * 60 + fN s 23 2) :=
    ⟨by omega, by omega, by omega, by omega, by omega, hdays, by omega, by omega, rfl⟩
  refine ⟨_, _, _, _, _, H, rfl, rfl, rfl, rfl, ?_⟩
  have hyb := ybef_mono (a := 1970) (b := fN s 12 4) H.y0
  have hyt := ybef_mono (a := fN s 12 4) (b := 9999) H.y1
  have h70 : ybef 1970 = 0 := by decide
  have h99 : ybef 9999 = 2932532 := by decide
  simp only [date_Read.j0]
  rw [if_neg (by simp), before_eval _ (by omega) (by omega)]
  simp only [Option.bind_some]
  rw [w64 (x := ybef (fN s 12 4) + fN s 5 2) (by omega) (by omega), w64 (by omega) (by omega)]
  have := read_l0 s (fIx s) (fN s 12 4) (fN s 5 2) (fN s 17 2) (fN s 20 2) (fN s 23 2) (by omega) (by omega) (by omega) (by omega) (by omega) (by omega) (by omega) (by omega) H (fIx s / 3).toNat 1 k (by omega) (by omega) (by omega)
  rw [mbef_1] at this
  simp only [Int.add_zero] at this
  exact this
/-- A date is read as its time. -/
theorem read_date {t y m d r : Int} (h : IsDate t y m d r) (s : ByteArray) (hs : s.data.toList = dateB t y m d r) (k : Nat) (hk : KD + 20 ≤ k) : date_Read.f k s = some (t, 0) := by
  have h29 : s.size = 29 := by rw [size_list, hs, dateB_len h]
  have hr := h.range
  have e := dateB_eq h
  obtain ⟨a1, a2, a3, ea⟩ := wd_three (t / 86400 % 7)
  obtain ⟨b1, b2, b3, eb⟩ := mo_three m
  have hix := mo_index m h.m0 h.m1
  rw [ea, eb] at e
  rw [eb] at hix
  have hd1 := (mlen_bd y m).2
  have hy := h.y0; have hy' := h.y1; have hd := h.d0; have hd' := h.d1; have hr0 := h.r0; have hr1 := h.r1; have hm0 := h.m0; have hm1 := h.m1
  have f1 : fIx s = 3 * m - 3 := by unfold fIx; rw [hs, e]; exact hix
  have f2 : fN s 12 4 = y := by unfold fN; rw [hs, e]; exact digits4 y (by omega) (by omega)
  have f3 : fN s 5 2 = d := by unfold fN; rw [hs, e]; exact digits2 d (by omega) (by omega)
  have f4 : fN s 17 2 = r / 3600 := by unfold fN; rw [hs, e]; exact digits2 (r / 3600) (by omega) (by omega)
  have f5 : fN s 20 2 = r / 60 % 60 := by unfold fN; rw [hs, e]; exact digits2 (r / 60 % 60) (by omega) (by omega)
  have f6 : fN s 23 2 = r % 60 := by unfold fN; rw [hs, e]; exact digits2 (r % 60) (by omega) (by omega)
  have hg : ¬ fBad s := by
    unfold fBad
    rw [f1, f2, f3, f4, f5, f6, show (3 * m - 3) / 3 + 1 = m by omega, daysI_in hy hy' hm0 hm1]
    omega
  obtain ⟨t', y', m', d', r', H', em, ey, ed, er, ef⟩ := read_good s h29 hg k hk
  rw [f1] at em; rw [f2] at ey; rw [f3] at ed; rw [f4, f5, f6] at er
  obtain rfl : m' = m := by omega
  subst ey; subst ed
  obtain rfl : r' = r := by omega
  obtain rfl : t' = t := by rw [H'.eq, h.eq]
  rw [ef, hs, if_pos rfl]
/-- What is read is the date of a time, or refused. -/
theorem read_any (s : ByteArray) (k : Nat) (hk : KD + 20 ≤ k) :
    (date_Read.f k s = some (0, 14) ∧ ∀ t y m d r, IsDate t y m d r → s.data.toList ≠ dateB t y m d r) ∨ ∃ t y m d r, IsDate t y m d r ∧ s.data.toList = dateB t y m d r ∧ date_Read.f k s = some (t, 0) := by
  by_cases hx : ∃ t y m d r, IsDate t y m d r ∧ s.data.toList = dateB t y m d r
  · obtain ⟨t, y, m, d, r, h, e⟩ := hx
    exact .inr ⟨t, y, m, d, r, h, e, read_date h s e k hk⟩
  · refine .inl ⟨?_, fun t y m d r h e => hx ⟨t, y, m, d, r, h, e⟩⟩
    by_cases h29 : s.size = 29
    · by_cases hb : fBad s
      · exact (read_29 s h29 k (by omega)).1 hb
      · obtain ⟨t, y, m, d, r, H, _, _, _, _, ef⟩ := read_good s h29 hb k hk
        rw [ef, if_neg (fun e => hx ⟨t, y, m, d, r, H, e.symm⟩)]
    · exact read_small s h29 k
theorem dateB_inj {t y m d r t' y' m' d' r' : Int} (h : IsDate t y m d r) (h' : IsDate t' y' m' d' r') (e : dateB t y m d r = dateB t' y' m' d' r') : t = t' := by
  have h1 := read_date h ⟨(dateB t y m d r).toArray⟩ (by simp) (KD + 20) (Nat.le_refl _)
  have h2 := read_date h' ⟨(dateB t y m d r).toArray⟩ (by rw [← e]) (KD + 20) (Nat.le_refl _)
  rw [h1] at h2
  simpa using h2

/-! ## The laws -/
theorem ancDate : IsDate 784111777 1994 11 6 31777 := ⟨by omega, by omega, by omega, by omega, by omega, by decide, by omega, by omega, by decide⟩
theorem ancText : dateB 784111777 1994 11 6 31777 = [83, 117, 110, 44, 32, 48, 54, 32, 78, 111, 118, 32, 49, 57, 57, 52, 32, 48, 56, 58, 52, 57, 58, 51, 55, 32, 71, 77, 84] := by
  rw [dateB_eq ancDate]
  decide
theorem anchor_ok (k : Nat) (hk : KD + 20 ≤ k) : pantrylaw02_anchor.f k = some true := by
  unfold pantrylaw02_anchor.f
  rw [show_of ancDate k (by omega)]
  simp only [Option.bind_some]
  rw [read_date ancDate _ (by rw [ancText]) k hk]
  simp only [Option.bind_some]
  rw [if_pos trivial, toList_eq, mk_list, ancText, if_pos rfl, if_pos trivial]
  rfl
def KL : Nat := 9100
theorem law_DateBack : pantrylaw02_DateBack.Pure := by
  intro t _
  refine ⟨KL, ?_⟩
  unfold pantrylaw02_DateBack.f
  rw [anchor_ok KL (by decide)]
  simp only [Option.bind_some]
  rw [if_pos trivial]
  by_cases h : 0 ≤ t ∧ t ≤ 253402300799
  · obtain ⟨y, m, d, hd⟩ := IsDate.exists t h.1 h.2
    rw [show_of hd KL (by decide)]
    simp only [Option.bind_some]
    rw [if_pos trivial, read_date hd _ (mk_list _) KL (by decide)]
    simp only [Option.bind_some]
    rw [if_pos trivial, if_pos trivial, size_list, mk_list, dateB_len hd]
    rfl
  · rw [show_none t (by omega) KL (by decide)]
    simp only [Option.bind_some]
    rw [if_neg (by decide)]
    by_cases h0 : t < 0
    · rw [if_pos h0]
    · rw [if_neg h0, decide_eq_true (by omega)]
theorem leap_ref (y : Int) : pantryref02_Leap.f y = some (decide (leapP y)) := by
  have h4 : Int.tmod y 4 = 0 ↔ y % 4 = 0 := tmod_zero y 4
  have h100 : Int.tmod y 100 = 0 ↔ y % 100 = 0 := tmod_zero y 100
  have h400 : Int.tmod y 400 = 0 ↔ y % 400 = 0 := tmod_zero y 400
  unfold pantryref02_Leap.f leapP
  by_cases c : y % 400 = 0
  · rw [if_pos (h400.2 c)]
    simp [c]
  · rw [if_neg (fun h => c (h400.1 h))]
    by_cases a : y % 4 = 0
    · rw [if_pos (h4.2 a)]
      by_cases b : y % 100 = 0
      · simp [a, b, c, h100.2 b]
      · have : ¬ Int.tmod y 100 = 0 := fun h => b (h100.1 h)
        simp [a, b, this]
    · rw [if_neg (fun h => a (h4.1 h))]
      simp [a, c]
theorem days_ref (y m : Int) : pantryref02_Days.f y m = some (daysI y m) := by
  unfold pantryref02_Days.f daysI
  by_cases h : y < 1970 ∨ 9999 < y ∨ m < 1 ∨ 12 < m
  · rw [if_pos h, if_pos h]
  · rw [if_neg h, if_neg h, leap_ref]
    simp only [Option.bind_some]
    have hm : m = 1 ∨ m = 2 ∨ m = 3 ∨ m = 4 ∨ m = 5 ∨ m = 6 ∨ m = 7 ∨ m = 8 ∨ m = 9 ∨ m = 10 ∨ m = 11 ∨ m = 12 := by omega
    unfold mlen lp
    by_cases hl : leapP y
    · rcases hm with rfl | rfl | rfl | rfl | rfl | rfl | rfl | rfl | rfl | rfl | rfl | rfl <;> simp [hl, refTab]
    · rcases hm with rfl | rfl | rfl | rfl | rfl | rfl | rfl | rfl | rfl | rfl | rfl | rfl <;> simp [hl, refTab]
theorem law_DateDays : pantrylaw02_DateDays.Pure := by
  intro y m t _ _ _
  refine ⟨KL, ?_⟩
  unfold pantrylaw02_DateDays.f
  rw [anchor_ok KL (by decide)]
  simp only [Option.bind_some]
  rw [if_pos trivial, days_eval KL (by decide)]
  simp only [Option.bind_some]
  rw [days_ref]
  simp only [Option.bind_some]
  rw [if_pos trivial]
  by_cases h : 0 ≤ t ∧ t ≤ 253402300799
  · obtain ⟨y, m, d, hd⟩ := IsDate.exists t h.1 h.2
    rw [split_of hd KL (by decide)]
    simp only [Option.bind_some]
    rw [if_pos trivial, if_pos hd.d0, days_eval KL (by decide)]
    simp only [Option.bind_some]
    rw [daysI_in hd.y0 hd.y1 hd.m0 hd.m1, if_pos hd.d1, if_pos hd.r0, decide_eq_true hd.r1]
  · rw [split_none t (by omega) KL (by decide)]
    simp only [Option.bind_some]
    rw [if_neg (by decide)]
theorem next_day {t y m d r : Int} (h : IsDate t y m d r) (ht : t + 86400 ≤ 253402300799) :
    (d < mlen y m → IsDate (t + 86400) y m (d + 1) r) ∧ (¬ d < mlen y m → m < 12 → IsDate (t + 86400) y (m + 1) 1 r) ∧ (¬ d < mlen y m → ¬ m < 12 → IsDate (t + 86400) (y + 1) 1 1 r) := by
  obtain ⟨y0, y1, m0, m1, d0, d1, r0, r1, eq⟩ := h
  have hs := mbef_succ y m m0 m1
  have hys := ybef_succ y
  have h13 := mbef_13 y
  have h1 := mbef_1 (y + 1)
  refine ⟨fun hd => ⟨y0, y1, m0, m1, by omega, by omega, r0, r1, by omega⟩, fun hd hm => ⟨y0, y1, by omega, by omega, by omega, by have := mlen_bd y (m + 1); omega, r0, r1, by omega⟩, fun hd hm => ?_⟩
  obtain rfl : m = 12 := by omega
  have e13 : mbef y (12 + 1) = mbef y 13 := rfl
  have hyy : y + 1 ≤ 9999 := by
    by_cases h99 : y = 9999
    · subst h99
      have : ybef 9999 = 2932532 := by decide
      have : mbef 9999 12 = 334 := by decide
      have : mlen 9999 12 = 31 := by decide
      omega
    · omega
  exact ⟨by omega, hyy, by omega, by omega, by omega, by have := mlen_bd (y + 1) 1; omega, r0, r1, by omega⟩
theorem law_DateOrder : pantrylaw02_DateOrder.Pure := by
  intro t _
  refine ⟨KL, ?_⟩
  unfold pantrylaw02_DateOrder.f
  rw [anchor_ok KL (by decide)]
  simp only [Option.bind_some]
  rw [if_pos trivial]
  obtain ⟨k, hk⟩ : ∃ j, KL = j + 1 := ⟨KL - 1, by decide⟩
  have hkd : KD ≤ k := by have : KL = 9100 := rfl; unfold KD; omega
  by_cases h0 : t < 0
  · rw [if_pos h0, hk]; simp [pantrylaw02_DateOrder.j0]
  · rw [if_neg h0]
    by_cases h1 : t > 253402214399
    · rw [decide_eq_true h1, hk]; simp [pantrylaw02_DateOrder.j0]
    · rw [decide_eq_false h1, hk]
      simp only [pantrylaw02_DateOrder.j0]
      obtain ⟨y, m, d, hd⟩ := IsDate.exists t (by omega) (by omega)
      rw [if_neg (by simp), split_of hd k hkd]
      simp only [Option.bind_some]
      rw [w64 (x := t + 86400) (by omega) (by omega)]
      obtain ⟨n1, n2, n3⟩ := next_day hd (by omega)
      obtain ⟨j, rfl⟩ : ∃ j, k = j + 1 := ⟨k - 1, by unfold KD at hkd; omega⟩
      have hj : 3 ≤ j := by unfold KD at hkd; omega
      have hy := hd.y0; have hy' := hd.y1; have hd0 := hd.d0; have hd1 := hd.d1; have hml := mlen_bd y m; have hm0 := hd.m0; have hm1 := hd.m1
      by_cases c1 : d < mlen y m
      · rw [split_of (n1 c1) _ hkd]
        simp only [Option.bind_some, bne_self_eq_false, pantrylaw02_DateOrder.j1]
        rw [if_pos trivial, if_neg (by simp), days_eval j hj]
        simp only [Option.bind_some]
        rw [daysI_in hd.y0 hd.y1 hd.m0 hd.m1, if_pos c1, if_pos trivial, if_pos trivial, w64 (by omega) (by omega)]
        simp
      · by_cases c2 : m < 12
        · rw [split_of (n2 c1 c2) _ hkd]
          simp only [Option.bind_some, bne_self_eq_false, pantrylaw02_DateOrder.j1]
          rw [if_pos trivial, if_neg (by simp), days_eval j hj]
          simp only [Option.bind_some]
          rw [daysI_in hd.y0 hd.y1 hd.m0 hd.m1, if_neg c1, if_pos c2, if_pos trivial, w64 (by omega) (by omega), if_pos rfl]
          rfl
        · rw [split_of (n3 c1 c2) _ hkd]
          simp only [Option.bind_some, bne_self_eq_false, pantrylaw02_DateOrder.j1]
          rw [if_pos trivial, if_neg (by simp), days_eval j hj]
          simp only [Option.bind_some]
          rw [daysI_in hd.y0 hd.y1 hd.m0 hd.m1, if_neg c1, if_neg c2, w64 (by omega) (by omega), if_pos rfl, if_pos trivial]
          rfl

/-! Weeks -/
theorem later_date {t y m d r : Int} (h : IsDate t y m d r) (j : Int) (h0 : 0 ≤ t + j * 86400) (h1 : t + j * 86400 ≤ 253402300799) : ∃ y' m' d', IsDate (t + j * 86400) y' m' d' r := by
  obtain ⟨y', m', d', h'⟩ := IsDate.exists (t + j * 86400) h0 h1
  have e : (t + j * 86400) % 86400 = r := by
    have := h.eq; have := h.r0; have := h.r1
    omega
  rw [e] at h'
  exact ⟨y', m', d', h'⟩
theorem date_take3 {t y m d r : Int} (h : IsDate t y m d r) : (dateB t y m d r).take 3 = wdB (t / 86400 % 7) := by
  rw [dateB_eq h]
  obtain ⟨a, b, c, e⟩ := wd_three (t / 86400 % 7)
  rw [e]
  rfl
theorem date_drop16 {t y m d r : Int} (h : IsDate t y m d r) : (dateB t y m d r).drop 16 = [32, dg (r / 3600 / 10), dg (r / 3600), 58, dg (r / 60 % 60 / 10), dg (r / 60 % 60), 58, dg (r % 60 / 10), dg (r % 60), 32, 71, 77, 84] := by
  rw [dateB_eq h]
  obtain ⟨a, b, c, e⟩ := wd_three (t / 86400 % 7)
  obtain ⟨a', b', c', e'⟩ := mo_three m
  rw [e, e']
  rfl
theorem wd_inj (p q : Int) (h0 : 0 ≤ p) (h1 : p ≤ 6) (h2 : 0 ≤ q) (h3 : q ≤ 6) : (wdB p = wdB q) ↔ p = q := by
  have hp : p = 0 ∨ p = 1 ∨ p = 2 ∨ p = 3 ∨ p = 4 ∨ p = 5 ∨ p = 6 := by omega
  have hq : q = 0 ∨ q = 1 ∨ q = 2 ∨ q = 3 ∨ q = 4 ∨ q = 5 ∨ q = 6 := by omega
  rcases hp with rfl | rfl | rfl | rfl | rfl | rfl | rfl <;> rcases hq with rfl | rfl | rfl | rfl | rfl | rfl | rfl <;> simp [wdB]
theorem week_l0 {t y m d r : Int} (h : IsDate t y m d r) (ht : t ≤ 253401695999) : ∀ (n : Nat) (j : Int) (k : Nat), j + n = 8 → 1 ≤ j → KD + n + 1 ≤ k →
    pantrylaw02_DateWeek.l0 k t ⟨(dateB t y m d r).toArray⟩ j = some true := by
  intro n
  induction n with
  | zero =>
    intro j k hj h1 hk
    obtain ⟨k, rfl⟩ : ∃ i, k = i + 1 := ⟨k - 1, by omega⟩
    simp only [pantrylaw02_DateWeek.l0]
    rw [if_neg (by omega)]
  | succ n ih =>
    intro j k hj h1 hk
    obtain ⟨k, rfl⟩ : ∃ i, k = i + 1 := ⟨k - 1, by omega⟩
    have hr := h.range
    obtain ⟨y', m', d', h'⟩ := later_date h j (by omega) (by omega)
    simp only [pantrylaw02_DateWeek.l0]
    rw [if_pos (by omega), w64 (x := j * 86400) (by omega) (by omega), w64 (x := t + j * 86400) (by omega) (by omega), show_of h' k (by omega)]
    simp only [Option.bind_some]
    have l1 : (⟨(dateB t y m d r).toArray⟩ : ByteArray).size = 29 := by rw [size_list, mk_list, dateB_len h]
    have l2 : (⟨(dateB (t + j * 86400) y' m' d' r).toArray⟩ : ByteArray).size = 29 := by rw [size_list, mk_list, dateB_len h']
    rw [if_pos trivial, l1, l2, if_pos (by omega), if_pos (by omega), if_pos (by omega)]
    rw [toList_eq, toList_eq, ext_list, ext_list, mk_list, mk_list, date_drop16 h, date_drop16 h', if_pos rfl]
    rw [if_pos (by omega), if_pos (by omega), if_pos (by omega)]
    rw [toList_eq, toList_eq, ext_list, ext_list, mk_list, mk_list, List.drop_zero, List.drop_zero, Nat.sub_zero, date_take3 h, date_take3 h']
    have hw : (wdB ((t + j * 86400) / 86400 % 7) == wdB (t / 86400 % 7)) = (j == 7) := by
      rw [Bool.eq_iff_iff, beq_iff_eq, beq_iff_eq, wd_inj _ _ (by omega) (by omega) (by omega) (by omega)]
      omega
    rw [hw, if_neg (by simp), w64 (x := j + 1) (by omega) (by omega)]
    exact ih (j + 1) k (by omega) (by omega) (by omega)
theorem law_DateWeek : pantrylaw02_DateWeek.Pure := by
  intro t _
  refine ⟨KL, ?_⟩
  unfold pantrylaw02_DateWeek.f
  rw [anchor_ok KL (by decide)]
  simp only [Option.bind_some]
  rw [if_pos trivial]
  obtain ⟨k, hk⟩ : ∃ j, KL = j + 1 := ⟨KL - 1, by decide⟩
  have hkd : KD + 50 ≤ k := by have : KL = 9100 := rfl; unfold KD; omega
  by_cases h0 : t < 0
  · rw [if_pos h0, hk]; simp [pantrylaw02_DateWeek.j0]
  · rw [if_neg h0]
    by_cases h1 : t > 253401695999
    · rw [decide_eq_true h1, hk]; simp [pantrylaw02_DateWeek.j0]
    · rw [decide_eq_false h1, hk]
      simp only [pantrylaw02_DateWeek.j0]
      obtain ⟨y, m, d, hd⟩ := IsDate.exists t (by omega) (by omega)
      rw [if_neg (by simp), show_of hd k (by omega)]
      simp only [Option.bind_some]
      have l1 : (⟨(dateB t y m d (t % 86400)).toArray⟩ : ByteArray).size = 29 := by rw [size_list, mk_list, dateB_len hd]
      rw [l1, if_pos (by omega)]
      exact week_l0 hd (by omega) 7 1 k (by omega) (by omega) (by omega)
theorem law_DateCuts : pantrylaw02_DateCuts.Pure := by
  intro t cut more _ hc hmore
  refine ⟨KL, ?_⟩
  unfold pantrylaw02_DateCuts.f
  rw [anchor_ok KL (by decide)]
  simp only [Option.bind_some]
  rw [if_pos trivial]
  obtain ⟨k, hk⟩ : ∃ j, KL = j + 1 := ⟨KL - 1, by decide⟩
  have hkd : KD + 50 ≤ k := by have : KL = 9100 := rfl; unfold KD; omega
  have j0t : ∀ x : ByteArray, pantrylaw02_DateCuts.j0 KL cut more x true = some true := by intro x; rw [hk]; simp [pantrylaw02_DateCuts.j0]
  by_cases h : 0 ≤ t ∧ t ≤ 253402300799
  · obtain ⟨y, m, d, hd⟩ := IsDate.exists t h.1 h.2
    rw [show_of hd KL (by decide)]
    simp only [Option.bind_some]
    rw [if_pos trivial]
    by_cases h0 : cut < 0
    · rw [if_pos h0, j0t]
    · rw [if_neg h0]
      by_cases h1 : (more.size : Int) > 100
      · rw [decide_eq_true h1, j0t]
      · rw [decide_eq_false h1, hk]
        simp only [pantrylaw02_DateCuts.j0]
        have l1 : (⟨(dateB t y m d (t % 86400)).toArray⟩ : ByteArray).size = 29 := by rw [size_list, mk_list, dateB_len hd]
        rw [if_neg (by simp), tmod_pos (by omega), if_pos (by omega), l1, if_pos (by omega)]
        rw [read_small _ (by rw [ByteArray.size_extract, l1]; omega)]
        simp only [Option.bind_some]
        rw [if_pos (by omega)]
        by_cases he : more.size = 0
        · have hl : more.data.toList = [] := by apply List.eq_nil_of_length_eq_zero; rw [← size_list]; exact he
          rw [read_date hd _ (by simp [hl]) k (by omega)]
          simp only [Option.bind_some]
          rw [if_pos trivial, toList_eq, hl]
          rfl
        · have hl : more.data.toList ≠ [] := by intro hl; exact he (by rw [size_list, hl]; rfl)
          rw [read_small _ (by rw [ByteArray.size_append, l1]; omega)]
          simp only [Option.bind_some]
          rw [if_pos trivial, toList_eq]
          have : (more.data.toList != []) = true := by simpa using hl
          rw [this]
          rfl
  · rw [show_none t (by omega) KL (by decide)]
    simp only [Option.bind_some]
    rw [if_neg (by decide), j0t]

/-! ## The reference's date, year by year -/
theorem ref_l1 (t y D : Int) (ht0 : 0 ≤ t) (hD : D = t / 86400) (hy0 : 1970 ≤ y) (hy1 : y ≤ 9999) (hl : ybef y ≤ D) (hu : D < ybef (y + 1)) (hu2 : D ≤ 3000000) : ∀ (n : Nat) (m : Int) (k : Nat), m + n = 12 → 1 ≤ m → 0 ≤ D - ybef y - mbef y m → n < k →
    ∃ m' d', pantryref02_Split.l1 k t (D - ybef y - mbef y m) y m = some (y, m', d', t % 86400) ∧ IsDate t y m' d' (t % 86400) := by
  have hyb := ybef_mono (a := 1970) (b := y) hy0
  have h70 : ybef 1970 = 0 := by decide
  intro n
  induction n with
  | zero =>
    intro m k hm h1 hr hk
    obtain rfl : m = 12 := by omega
    obtain ⟨k, rfl⟩ : ∃ j, k = j + 1 := ⟨k - 1, by omega⟩
    have hs := mbef_succ y 12 (by omega) (by omega)
    have h13 := mbef_13 y
    have hys := ybef_succ y
    have hb := mbef_bd y 12 (by omega) (by omega)
    have hlen := mlen_bd y 12
    have e13 : mbef y (12 + 1) = mbef y 13 := rfl
    refine ⟨12, D - ybef y - mbef y 12 + 1, ?_, ⟨hy0, hy1, by omega, by omega, by omega, by omega, by omega, by omega, by omega⟩⟩
    simp only [pantryref02_Split.l1]
    rw [days_ref]
    simp only [Option.bind_some]
    rw [daysI_in hy0 hy1 (by omega) (by omega), if_neg (by omega), w64 (by omega) (by omega), tmod_pos ht0]
  | succ n ih =>
    intro m k hm h1 hr hk
    obtain ⟨k, rfl⟩ : ∃ j, k = j + 1 := ⟨k - 1, by omega⟩
    have hs := mbef_succ y m (by omega) (by omega)
    have hys := ybef_succ y
    have hlp := lp_01 y
    have hb := mbef_bd y m (by omega) (by omega)
    have hlen := mlen_bd y m
    simp only [pantryref02_Split.l1]
    rw [days_ref]
    simp only [Option.bind_some]
    rw [daysI_in hy0 hy1 (by omega) (by omega)]
    by_cases hc : D - ybef y - mbef y m ≥ mlen y m
    · rw [if_pos hc, w64 (x := m + 1) (by omega) (by omega), w64 (by omega) (by omega)]
      have := ih (m + 1) k (by omega) (by omega) (by omega) (by omega)
      rw [hs] at this
      rw [show D - ybef y - mbef y m - mlen y m = D - ybef y - (mbef y m + mlen y m) from by omega]
      exact this
    · rw [if_neg hc, w64 (by omega) (by omega), tmod_pos ht0]
      exact ⟨m, D - ybef y - mbef y m + 1, rfl, ⟨hy0, hy1, by omega, by omega, by omega, by omega, by omega, by omega, by omega⟩⟩
theorem ref_l0 (t D : Int) (ht0 : 0 ≤ t) (ht1 : t ≤ 253402300799) (hD : D = t / 86400) : ∀ (n : Nat) (y : Int) (k : Nat), y + n = 9999 → 1970 ≤ y → ybef y ≤ D → n + 40 < k →
    ∃ y' m' d', pantryref02_Split.l0 k t (D - ybef y) y = some (y', m', d', t % 86400) ∧ IsDate t y' m' d' (t % 86400) := by
  have hmax : ybef 10000 = 2932897 := by decide
  have h70 : ybef 1970 = 0 := by decide
  have fin : ∀ (y : Int) (k : Nat), 1970 ≤ y → y ≤ 9999 → ybef y ≤ D → D < ybef (y + 1) → 30 < k → ∃ y' m' d', pantryref02_Split.j1 k t (D - ybef y) y = some (y', m', d', t % 86400) ∧ IsDate t y' m' d' (t % 86400) := by
    intro y k hy0 hy1 hl hu hk
    obtain ⟨k, rfl⟩ : ∃ j, k = j + 1 := ⟨k - 1, by omega⟩
    simp only [pantryref02_Split.j1]
    have := ref_l1 t y D ht0 hD hy0 hy1 hl hu (by omega) 11 1 k (by omega) (by omega) (by rw [mbef_1]; omega) (by omega)
    rw [mbef_1] at this
    simp only [Int.sub_zero] at this
    obtain ⟨m', d', h1, h2⟩ := this
    exact ⟨y, m', d', h1, h2⟩
  intro n
  induction n with
  | zero =>
    intro y k hy h1 hl hk
    obtain rfl : y = 9999 := by omega
    obtain ⟨k, rfl⟩ : ∃ j, k = j + 1 := ⟨k - 1, by omega⟩
    have h99 : ybef 9999 = 2932532 := by decide
    have hlf : ¬ leapP 9999 := by decide
    simp only [pantryref02_Split.l0]
    rw [leap_ref, decide_eq_false hlf]
    simp only [Option.bind_some]
    rw [if_neg (by simp), if_pos (by omega)]
    exact fin 9999 k (by omega) (by omega) hl (by rw [show (9999 : Int) + 1 = 10000 by rfl]; omega) (by omega)
  | succ n ih =>
    intro y k hy h1 hl hk
    obtain ⟨k, rfl⟩ : ∃ j, k = j + 1 := ⟨k - 1, by omega⟩
    have hys := ybef_succ y
    have hyb := ybef_mono (a := 1970) (b := y) h1
    simp only [pantryref02_Split.l0]
    rw [leap_ref]
    simp only [Option.bind_some]
    unfold lp at hys
    by_cases hlf : leapP y
    · rw [if_pos hlf] at hys
      rw [decide_eq_true hlf, if_pos rfl]
      by_cases hc : D - ybef y < 366
      · rw [if_pos hc]
        exact fin y k h1 (by omega) hl (by omega) (by omega)
      · rw [if_neg hc, w64 (x := y + 1) (by omega) (by omega), w64 (by omega) (by omega), show D - ybef y - 366 = D - ybef (y + 1) by omega]
        exact ih (y + 1) k (by omega) (by omega) (by omega) (by omega)
    · rw [if_neg hlf] at hys
      rw [decide_eq_false hlf, if_neg (by simp)]
      by_cases hc : D - ybef y < 365
      · rw [if_pos hc]
        exact fin y k h1 (by omega) hl (by omega) (by omega)
      · rw [if_neg hc, w64 (x := y + 1) (by omega) (by omega), w64 (by omega) (by omega), show D - ybef y - 365 = D - ybef (y + 1) by omega]
        exact ih (y + 1) k (by omega) (by omega) (by omega) (by omega)
theorem split_ref {t y m d r : Int} (h : IsDate t y m d r) (k : Nat) (hk : KD ≤ k) : pantryref02_Split.f k t = some (y, m, d, r) := by
  unfold KD at hk
  have hr := h.range
  unfold pantryref02_Split.f
  rw [tdiv_pos hr.1, w64 (x := t / 86400) (by omega) (by omega)]
  have h70 : ybef 1970 = 0 := by decide
  have := ref_l0 t (t / 86400) hr.1 hr.2 rfl 8029 1970 k (by omega) (by omega) (by omega) (by omega)
  rw [h70, Int.sub_zero] at this
  obtain ⟨y', m', d', e, h'⟩ := this
  obtain ⟨rfl, rfl, rfl, rfl⟩ := h.unique h'
  exact e
theorem rtwo_eq (n : Int) (h0 : 0 ≤ n) (h1 : n ≤ 99) : (rtwo n).data.toList = [dg (n / 10), dg n] := by
  unfold rtwo pantryref02_two.f strOfNums dg
  rw [tdiv_pos h0, tmod_pos h0, w64 (x := n / 10) (by omega) (by omega), w64 (x := 48 + n / 10) (by omega) (by omega), w64 (x := 48 + n % 10) (by omega) (by omega)]
  rw [show (48 + n / 10) % 256 = 48 + n / 10 % 10 by omega, show (48 + n % 10) % 256 = 48 + n % 10 by omega]
  rfl
theorem weekAt_eq (q : Int) (h0 : 0 ≤ q) (h1 : q ≤ 6) : (weekAt q.toNat).data.toList = wdB q := by
  rw [← wd_ext q h0 h1]
  unfold weekAt
  rw [show (q * 3).toNat = q.toNat * 3 by omega, show (q * 3 + 3).toNat = q.toNat * 3 + 3 by omega]
theorem monthAt_eq (m : Int) (h0 : 1 ≤ m) (h1 : m ≤ 12) : (monthAt m.toNat).data.toList = moB m := by
  rw [← mo_ext m h0 h1]
  unfold monthAt
  rw [show (3 * m - 3).toNat = 3 * m.toNat - 3 by omega, show (3 * m - 3 + 3).toNat = 3 * m.toNat - 3 + 3 by omega]
theorem refShowB_eq {t y m d r : Int} (h : IsDate t y m d r) : (refShowB t y m d r).data.toList = dateB t y m d r := by
  have hr := h.range
  have hml := mlen_bd y m
  have hy := h.y0; have hy' := h.y1; have hd := h.d0; have hd' := h.d1; have hr0 := h.r0; have hr1 := h.r1; have hm0 := h.m0; have hm1 := h.m1
  rw [dateB_eq h]
  unfold refShowB
  simp only [ByteArray.data_append, Array.toList_append]
  rw [weekAt_eq _ (by omega) (by omega), monthAt_eq m hm0 hm1, rtwo_eq d (by omega) (by omega), rtwo_eq (y / 100) (by omega) (by omega), rtwo_eq (y % 100) (by omega) (by omega), rtwo_eq (r / 3600) (by omega) (by omega), rtwo_eq (r / 60 % 60) (by omega) (by omega), rtwo_eq (r % 60) (by omega) (by omega)]
  have e1 : dg (y / 100 / 10) = dg (y / 1000) := by unfold dg; rw [show y / 100 / 10 = y / 1000 by omega]
  have e2 : dg (y % 100 / 10) = dg (y / 10) := by unfold dg; rw [show y % 100 / 10 % 10 = y / 10 % 10 by omega]
  have e3 : dg (y % 100) = dg y := by unfold dg; rw [show y % 100 % 10 = y % 10 by omega]
  rw [e1, e2, e3]
  simp
theorem refShow_of {t y m d r : Int} (h : IsDate t y m d r) (k : Nat) (hk : KD ≤ k) : pantryref02_Show.f k t = some (refShowB t y m d r) := by
  have hr := h.range
  have hml := mlen_bd y m
  unfold pantryref02_Show.f
  rw [split_ref h k hk]
  simp only [Option.bind_some]
  rw [if_pos ⟨hr, ⟨by have := h.y0; omega, h.y1⟩, ⟨h.m0, h.m1⟩, ⟨by have := h.d0; omega, by have := h.d1; omega⟩, h.r0, by have := h.r1; omega⟩]
theorem law_DateShows : pantrylaw02_DateShows.Pure := by
  intro t _
  refine ⟨KL, ?_⟩
  unfold pantrylaw02_DateShows.f
  rw [anchor_ok KL (by decide)]
  simp only [Option.bind_some]
  rw [if_pos trivial]
  obtain ⟨k, hk⟩ : ∃ j, KL = j + 1 := ⟨KL - 1, by decide⟩
  have hkd : KD + 50 ≤ k := by have : KL = 9100 := rfl; unfold KD; omega
  by_cases h : 0 ≤ t ∧ t ≤ 253402300799
  · obtain ⟨y, m, d, hd⟩ := IsDate.exists t h.1 h.2
    rw [show_of hd KL (by decide)]
    simp only [Option.bind_some]
    rw [split_of hd KL (by decide)]
    simp only [Option.bind_some]
    rw [if_neg (by omega), decide_eq_false (by omega), hk]
    simp only [pantrylaw02_DateShows.j0]
    rw [if_neg (by simp), split_ref hd k (by omega)]
    simp only [Option.bind_some]
    rw [if_pos trivial, if_pos trivial, refShow_of hd k (by omega)]
    simp only [Option.bind_some]
    rw [toList_eq, toList_eq, mk_list, refShowB_eq hd]
    simp
  · rw [show_none t (by omega) KL (by decide)]
    simp only [Option.bind_some]
    rw [split_none t (by omega) KL (by decide)]
    simp only [Option.bind_some]
    have hj : pantrylaw02_DateShows.j0 KL t ⟨#[]⟩ 11 0 0 0 0 11 true = some true := by rw [hk]; simp [pantrylaw02_DateShows.j0, toList_eq]
    by_cases h0 : t < 0
    · rw [if_pos h0, hj]
    · rw [if_neg h0, decide_eq_true (by omega), hj]

/-! ## DateReads -/
theorem u8_range (x : Int) (h : (Lit.int .u8 x).wf = true) : 0 ≤ x ∧ x ≤ 255 := by
  simp [Lit.wf, IntKind.min, IntKind.max, IntKind.signed, IntKind.bits] at h
  omega
theorem law_DateReads : pantrylaw02_DateReads.Pure := by
  intro s i x _ _ hx
  refine ⟨KL, ?_⟩
  have hx := u8_range x hx
  unfold pantrylaw02_DateReads.f
  refine if_pos ⟨hx, anchor_ok KL (by decide), ?_⟩
  by_cases hbig : 200 < s.size
  · exact .inl hbig
  · refine .inr ?_
    rcases read_any s KL (by decide) with ⟨h, _⟩ | ⟨t, y, m, d, r, hd, hs, h⟩
    · exact .inl ⟨by omega, h⟩
    · have hlen : s.size = 29 := by rw [size_list, hs, dateB_len hd]
      have hsh : ∀ (z : ByteArray) {t y m d r : Int} (hd : IsDate t y m d r), z.data.toList = dateB t y m d r → pantryref02_Show.f KL t = some z := by
        intro z t y m d r hd hz
        rw [refShow_of hd KL (by decide)]
        exact congrArg some (bytes_ext (by rw [refShowB_eq hd, hz]))
      refine .inr ⟨t, hlen, h, hd.range.1, hd.range.2, hsh s hd hs, ?_⟩
      by_cases h0 : i < 0
      · exact .inl h0
      · by_cases h1 : 29 ≤ i
        · exact .inr (.inl h1)
        · by_cases h2 : bt s i = x
          · exact .inr (.inr (.inl ⟨by omega, by omega, h2⟩))
          · refine .inr (.inr (.inr ⟨by omega, by omega, h2, ?_⟩))
            rcases read_any (turnB s i x) KL (by decide) with ⟨h, _⟩ | ⟨u, y', m', d', r', hd', hs', h'⟩
            · exact .inl h
            · refine .inr ⟨u, h', ?_, hsh _ hd' hs'⟩
              rintro rfl
              obtain ⟨rfl, rfl, rfl, rfl⟩ := hd.unique hd'
              have e : (turnB s i x).data.toList = s.data.toList := by rw [hs', hs]
              obtain ⟨n, rfl⟩ := Int.eq_ofNat_of_zero_le (show 0 ≤ i by omega)
              have hn : n < s.data.toList.length := by rw [← size_list]; omega
              have e2 : (turnB s (n : Int) x).data.toList = s.data.toList.set n (UInt8.ofNat x.toNat) := by simp [turnB, turnL]
              rw [e2] at e
              have e3 : (s.data.toList.set n (UInt8.ofNat x.toNat))[n]? = s.data.toList[n]? := by rw [e]
              rw [List.getElem?_set_self hn, List.getElem?_eq_getElem hn] at e3
              have e4 := Option.some.inj e3
              apply h2
              rw [bt_list s n hn, ← e4]
              obtain ⟨b, rfl⟩ := Int.eq_ofNat_of_zero_le hx.1
              have : b < 256 := by omega
              simp
              omega

end Go.Proofs.Ytiaiengdncdiaaa.PAll
