import Derived.Test.YtfcifigemiafgaaDoorPAllx0
import Derived.Test.YtfcifigemiafgaaDoorPAllx1
import Derived.Test.YtfcifigemiafgaaDoorPAllx2
import Derived.Test.YtfcifigemiafgaaDoorPAllx3
import Derived.Test.YtfcifigemiafgaaDoorPAllx4
import Derived.Test.YtfcifigemiafgaaDoorPAllx5
import Derived.Test.YtfcifigemiafgaaDoorPAllx6
import Derived.Test.YtfcifigemiafgaaDoorPAllx7
import Derived.Test.YtfcifigemiafgaaDoorPAllx8
import Derived.Test.YtfcifigemiafgaaDoorPAllx9
import Derived.Test.YtfcifigemiafgaaDoorPAllx10
import Derived.Test.YtfcifigemiafgaaDoorPAllx11
import Derived.Test.YtfcifigemiafgaaDoorPAllx12
import Derived.Test.YtfcifigemiafgaaDoorPAllx13
import Derived.Test.YtfcifigemiafgaaDoorPAllx14
import Derived.Test.YtfcifigemiafgaaDoorPAllx15
import Derived.Test.YtfcifigemiafgaaDoorPAllx16
import Derived.Lib.Join
namespace Go.Proofs.YtfcifigemiafgaaDoor.PAll
open Go.RowKit Go.Proofs.YtfcifigemiafgaaDoorW.PrintWords Go.Proofs.YtfcifigemiafgaaDoorW.PrintLast Go.Proofs.YtfcifigemiafgaaDoorW.PrintMore
set_option linter.unusedVariables false
set_option linter.unusedSimpArgs false

/-! ## Sites, as lists -/
theorem w64n {x : Int} (h0 : -9223372036854775808 ≤ x) (h1 : x ≤ 9223372036854775807) : wrap64 x = x := by unfold wrap64; omega
theorem anchor80 : pantrylaw09_anchor.f 80 = some true := by decide +kernel
theorem anchor_ok (k : Nat) (hk : 80 ≤ k) : pantrylaw09_anchor.f k = some true := by
  obtain ⟨j, rfl⟩ : ∃ j, k = 80 + j := ⟨k - 80, by omega⟩
  clear hk
  induction j with
  | zero => exact anchor80
  | succ j ih => exact pantrylaw09_anchor.mono _ _ ih
theorem rdS (l : List S29) (i : Nat) (h : i < l.length) : rd_T29 l (i : Int) = l[i] := by simp [rd_T29, h]
theorem rdR (l : List S38) (i : Nat) (h : i < l.length) : rd_T38 l (i : Int) = l[i] := by simp [rd_T38, h]
theorem rdB (l : List ByteArray) (i : Nat) (h : i < l.length) : rdOf ByteArray.empty l (i : Int) = l[i] := by simp [rdOf, h]
/-- A site as the reference has it. -/
def toR (x : S29) : S38 := ⟨x.f0, x.f1, x.f2, x.f3, x.f4, x.f5, x.f6⟩
theorem cfg_l0 (l : List S29) (hl : l.length ≤ 1000) : ∀ (d i k : Nat) (acc : List S38), i + d = l.length → d < k → acc.length ≤ 1000 + i →
    pantrymade_Config.l0 k l (l.length : Int) (i : Int) acc = some (acc ++ (l.drop i).map toR) := by
  intro d
  induction d with
  | zero =>
    intro i k acc hi hk ha
    obtain ⟨k, rfl⟩ : ∃ j, k = j + 1 := ⟨k - 1, by omega⟩
    simp only [pantrymade_Config.l0]
    rw [if_neg (by omega), List.drop_of_length_le (by omega)]
    simp
  | succ d ih =>
    intro i k acc hi hk ha
    obtain ⟨k, rfl⟩ : ∃ j, k = j + 1 := ⟨k - 1, by omega⟩
    have hlt : i < l.length := by omega
    simp only [pantrymade_Config.l0]
    rw [if_pos (by omega), if_pos (by omega), if_pos (by omega), rdS l i hlt]
    simp only [pantrymade_Site.f, Option.bind_some]
    rw [if_pos (by omega), w64n (by omega) (by omega), show ((i : Int) + 1) = ((i + 1 : Nat) : Int) from by omega, ih (i + 1) k _ (by omega) (by omega) (by simp only [List.length_append, List.length_cons, List.length_nil]; omega), List.drop_eq_getElem_cons hlt, List.map_cons, List.append_assoc]
    rfl
theorem cfg_eval (l : List S29) (hl : l.length ≤ 1000) (k : Nat) (hk : l.length < k) : pantrymade_Config.f k l = some (l.map toR) := by
  have := cfg_l0 l hl l.length 0 k [] (by omega) hk (by simp)
  simpa [pantrymade_Config.f] using this
/-- A site is like itself. -/
theorem alike_l0 (a0 : ByteArray) (a1 a2 a3 : Int) (a4 a5 : Bool) (a6 : List ByteArray) (h6 : a6.length ≤ 1000) : ∀ (d i k : Nat), i + d = a6.length → d < k →
    pantryref09_Alike.l0 k (i : Int) a0 a1 a2 a3 a4 a5 a6 a0 a1 a2 a3 a4 a5 a6 = some true := by
  intro d
  induction d with
  | zero =>
    intro i k hi hk
    obtain ⟨k, rfl⟩ : ∃ j, k = j + 1 := ⟨k - 1, by omega⟩
    simp only [pantryref09_Alike.l0]
    rw [if_neg (by omega)]
  | succ d ih =>
    intro i k hi hk
    obtain ⟨k, rfl⟩ : ∃ j, k = j + 1 := ⟨k - 1, by omega⟩
    simp only [pantryref09_Alike.l0]
    rw [if_pos (by omega), if_pos (by omega), if_pos (by omega), if_pos trivial, w64n (by omega) (by omega)]
    exact ih (i + 1) k (by omega) (by omega)
theorem alike_self (a0 : ByteArray) (a1 a2 a3 : Int) (a4 a5 : Bool) (a6 : List ByteArray) (h6 : a6.length ≤ 1000) (k : Nat) (hk : a6.length + 1 < k) : pantryref09_Alike.f k a0 a1 a2 a3 a4 a5 a6 a0 a1 a2 a3 a4 a5 a6 = some true := by
  obtain ⟨k, rfl⟩ : ∃ j, k = j + 1 := ⟨k - 1, by omega⟩
  unfold pantryref09_Alike.f
  rw [if_pos rfl, if_pos rfl, if_pos rfl, if_pos rfl, if_neg (by simp), if_neg (by simp)]
  simp only [pantryref09_Alike.j0]
  rw [if_neg (by simp)]
  exact alike_l0 a0 a1 a2 a3 a4 a5 a6 h6 a6.length 0 k (by omega) (by omega)

/-! ## SmallSites -/
def SmallH (x : S29) : Prop := x.f0.size ≤ 100 ∧ x.f6.length ≤ 10 ∧ ∀ h ∈ x.f6, h.size ≤ 100
/-- One site's heads, then the next site. -/
theorem sm_l1 (l : List S29) (i : Nat) (hs : List ByteArray) (h10 : hs.length ≤ 10) (hi : i + 1 ≤ 9223372036854775807) : ∀ (d j k : Nat), j + d = hs.length → d < k →
    pantrymade_SmallSites.l1 k l (l.length : Int) (i : Int) hs (hs.length : Int) (j : Int) l = some false ∨
    ((∀ h ∈ hs.drop j, h.size ≤ 100) ∧ pantrymade_SmallSites.l1 k l (l.length : Int) (i : Int) hs (hs.length : Int) (j : Int) l = pantrymade_SmallSites.l0 (k - 1 - d) l (l.length : Int) ((i + 1 : Nat) : Int) l) := by
  intro d
  induction d with
  | zero =>
    intro j k hj hk
    obtain ⟨k, rfl⟩ : ∃ j, k = j + 1 := ⟨k - 1, by omega⟩
    right
    rw [List.drop_of_length_le (by omega)]
    refine ⟨fun h hh => absurd hh (by simp), ?_⟩
    simp only [pantrymade_SmallSites.l1]
    rw [if_neg (by omega), w64n (by omega) (by omega)]
    rfl
  | succ d ih =>
    intro j k hj hk
    obtain ⟨k, rfl⟩ : ∃ j, k = j + 1 := ⟨k - 1, by omega⟩
    have hlt : j < hs.length := by omega
    simp only [pantrymade_SmallSites.l1]
    rw [if_pos (by omega), if_pos (by omega), if_pos (by omega), rdB hs j hlt]
    by_cases h1 : ((hs[j]).size : Int) > 100
    · rw [if_pos h1]; exact .inl rfl
    · rw [if_neg h1, w64n (by omega) (by omega), show ((j : Int) + 1) = ((j + 1 : Nat) : Int) from by omega]
      rcases ih (j + 1) k (by omega) (by omega) with h | ⟨h2, h3⟩
      · exact .inl h
      · refine .inr ⟨?_, by rw [h3, show k + 1 - 1 - (d + 1) = k - 1 - d from by omega]⟩
        intro h hh
        rw [List.drop_eq_getElem_cons hlt] at hh
        rcases List.mem_cons.1 hh with rfl | hh
        · omega
        · exact h2 h hh
theorem sm_l0 (l : List S29) (hl : l.length ≤ 9223372036854775807) : ∀ (d i k : Nat), i + d = l.length → 14 * d < k →
    ∃ b, pantrymade_SmallSites.l0 k l (l.length : Int) (i : Int) l = some b ∧ (b = true → l.length ≤ 12 ∧ ∀ x ∈ l.drop i, SmallH x) := by
  intro d
  induction d with
  | zero =>
    intro i k hi hk
    obtain ⟨k, rfl⟩ : ∃ j, k = j + 1 := ⟨k - 1, by omega⟩
    simp only [pantrymade_SmallSites.l0]
    rw [if_neg (by omega)]
    refine ⟨_, rfl, fun h => ?_⟩
    have := of_decide_eq_true h
    rw [List.drop_of_length_le (by omega)]
    exact ⟨by omega, fun f hf => by cases hf⟩
  | succ d ih =>
    intro i k hi hk
    obtain ⟨k, rfl⟩ : ∃ j, k = j + 2 := ⟨k - 2, by omega⟩
    have hlt : i < l.length := by omega
    have j1 : ∀ (b : Bool), pantrymade_SmallSites.j1 (k + 1) l (l.length : Int) (i : Int) b l l[i].f0 l[i].f1 l[i].f2 l[i].f3 l[i].f4 l[i].f5 l[i].f6 = if b = true then some false else pantrymade_SmallSites.l1 k l (l.length : Int) (i : Int) l[i].f6 (l[i].f6.length : Int) 0 l := fun b => rfl
    unfold pantrymade_SmallSites.l0
    rw [if_pos (by omega), if_pos (by omega), if_pos (by omega), rdS l i hlt]
    by_cases h1 : ((l[i].f0).size : Int) > 100
    · rw [if_pos h1, j1, if_pos rfl]; exact ⟨false, rfl, fun h => by cases h⟩
    · rw [if_neg h1, j1]
      by_cases h2 : ((l[i].f6).length : Int) > 10
      · rw [if_pos (decide_eq_true h2)]; exact ⟨false, rfl, fun h => by cases h⟩
      · rw [if_neg (by simpa using h2)]
        rcases sm_l1 l i l[i].f6 (by omega) (by omega) l[i].f6.length 0 k (by omega) (by omega) with h | ⟨h3, h4⟩
        · rw [show ((0 : Nat) : Int) = 0 from rfl] at h
          rw [h]; exact ⟨false, rfl, fun h => by cases h⟩
        · rw [show ((0 : Nat) : Int) = 0 from rfl] at h4
          rw [h4]
          obtain ⟨b, hb, hs⟩ := ih (i + 1) (k - 1 - l[i].f6.length) (by omega) (by omega)
          refine ⟨b, hb, fun h => ?_⟩
          obtain ⟨h5, h6⟩ := hs h
          refine ⟨h5, fun f hf => ?_⟩
          rw [List.drop_eq_getElem_cons hlt] at hf
          rcases List.mem_cons.1 hf with rfl | hf
          · exact ⟨by omega, by omega, fun x hx => h3 x (by simpa using hx)⟩
          · exact h6 f hf
theorem sm_eval (l : List S29) (hl : l.length ≤ 9223372036854775807) (k : Nat) (hk : 14 * l.length < k) : ∃ b, pantrymade_SmallSites.f k l = some b ∧ (b = true → l.length ≤ 12 ∧ ∀ x ∈ l, SmallH x) := by
  obtain ⟨b, hb, h⟩ := sm_l0 l hl l.length 0 k (by omega) hk
  exact ⟨b, hb, fun e => by have := h e; simpa using this⟩

/-! ## Find -/
/-- Both ways to find a host's site tell one and the same. -/
theorem find_l0 (l : List S29) (host : ByteArray) (hl : l.length ≤ 1000) (hh : ∀ x ∈ l, x.f6.length ≤ 1000) : ∀ (d i k : Nat), i + d = l.length → d < k →
    (∃ (j : Nat) (h : j < l.length), conf_Config_Find.l0 k host l (l.length : Int) (i : Int) = some (l[j].f0, l[j].f1, l[j].f2, l[j].f3, l[j].f4, l[j].f5, l[j].f6, true) ∧ pantryref09_Config_Find.l0 k host (i : Int) (l.map toR) = some (j : Int)) ∨
    (conf_Config_Find.l0 k host l (l.length : Int) (i : Int) = some ((⟨#[]⟩ : ByteArray), 0, 0, 0, false, false, [], false) ∧ pantryref09_Config_Find.l0 k host (i : Int) (l.map toR) = some (-1)) := by
  intro d
  induction d with
  | zero =>
    intro i k hi hk
    obtain ⟨k, rfl⟩ : ∃ j, k = j + 1 := ⟨k - 1, by omega⟩
    right
    simp only [conf_Config_Find.l0, pantryref09_Config_Find.l0]
    rw [if_neg (by omega), if_neg (by simp; omega)]
    exact ⟨rfl, rfl⟩
  | succ d ih =>
    intro i k hi hk
    obtain ⟨k, rfl⟩ : ∃ j, k = j + 1 := ⟨k - 1, by omega⟩
    have hlt : i < l.length := by omega
    have hm : i < (l.map toR).length := by simpa using hlt
    have h0 : (rd_T38 (l.map toR) (i : Int)).f0 = l[i].f0 := by rw [rdR _ i hm]; simp [toR]
    have e1 : conf_Config_Find.l0 (k + 1) host l (l.length : Int) (i : Int) = if l[i].f0.toList = host.toList then (slices_Clone_string_string.f l[i].f6).bind fun t105 => some (l[i].f0, l[i].f1, l[i].f2, l[i].f3, l[i].f4, l[i].f5, t105, true) else conf_Config_Find.l0 k host l (l.length : Int) (wrap64 ((i : Int) + 1)) := by
      simp only [conf_Config_Find.l0]
      rw [if_pos (by omega), if_pos (by omega), if_pos (by omega), rdS l i hlt]
    have e2 : pantryref09_Config_Find.l0 (k + 1) host (i : Int) (l.map toR) = if l[i].f0.toList = host.toList then some (i : Int) else pantryref09_Config_Find.l0 k host (wrap64 ((i : Int) + 1)) (l.map toR) := by
      simp only [pantryref09_Config_Find.l0]
      rw [if_pos (by simp; omega), if_pos (by omega), h0]
    rw [e1, e2]
    by_cases c : l[i].f0.toList = host.toList
    · left
      rw [if_pos c, if_pos c]
      have hc : slices_Clone_string_string.f l[i].f6 = some l[i].f6 := by
        unfold slices_Clone_string_string.f
        rw [if_pos (by have := hh l[i] (List.getElem_mem hlt); omega)]
      rw [hc]
      exact ⟨i, hlt, rfl, rfl⟩
    · rw [if_neg c, if_neg c, w64n (by omega) (by omega)]
      exact ih (i + 1) k (by omega) (by omega)

/-! ## ConfFinds -/
theorem law_ConfFinds (l : List S29) (host : ByteArray) (hl : l.length ≤ 9223372036854775807) : ∃ k, pantrylaw09_ConfFinds.f k l host = some true := by
  obtain ⟨K, hK⟩ : ∃ K, 14 * l.length + 2000 ≤ K := ⟨_, Nat.le_refl _⟩
  refine ⟨K + 1, ?_⟩
  have jt : pantrylaw09_ConfFinds.j0 (K + 1) host true l = some true := by simp [pantrylaw09_ConfFinds.j0]
  unfold pantrylaw09_ConfFinds.f
  rw [anchor_ok _ (by omega)]
  simp only [Option.bind_some]
  rw [if_pos trivial]
  obtain ⟨b, hb, hs⟩ := sm_eval l hl (K + 1) (by omega)
  rw [hb]
  simp only [Option.bind_some]
  cases b with
  | false => rw [if_neg (by simp)]; exact jt
  | true =>
  rw [if_pos rfl]
  obtain ⟨h12, hsm⟩ := hs rfl
  by_cases c1 : (host.size : Int) > 100
  · rw [decide_eq_true c1]; exact jt
  rw [decide_eq_false c1]
  simp only [pantrylaw09_ConfFinds.j0]
  rw [if_neg (by simp)]
  have hcf := cfg_eval l (by omega) K (by omega)
  rcases find_l0 l host (by omega) (fun x hx => by have := (hsm x hx).2.1; omega) l.length 0 K (by omega) (by omega) with ⟨j, hj, hf, hr⟩ | ⟨hf, hr⟩
  · have hf' : conf_Config_Find.f K l host = some (l[j].f0, l[j].f1, l[j].f2, l[j].f3, l[j].f4, l[j].f5, l[j].f6, true) := hf
    have hr' : pantryref09_Config_Find.f K (l.map toR) host = some (j : Int) := hr
    rw [hf', hcf]
    simp only [Option.bind_some]
    rw [hr']
    simp only [Option.bind_some]
    rw [if_neg (by omega), if_pos trivial]
    simp only [pantrymade_Site.f, Option.bind_some]
    rw [if_pos (by omega), if_pos (by omega), rdS l j hj]
    rw [alike_self _ _ _ _ _ _ _ (by have := (hsm l[j] (List.getElem_mem hj)).2.1; omega) K (by have := (hsm l[j] (List.getElem_mem hj)).2.1; omega)]
    rfl
  · have hf' : conf_Config_Find.f K l host = some ((⟨#[]⟩ : ByteArray), 0, 0, 0, false, false, [], false) := hf
    have hr' : pantryref09_Config_Find.f K (l.map toR) host = some (-1) := hr
    rw [hf', hcf]
    simp only [Option.bind_some]
    rw [hr']
    simp only [Option.bind_some]
    rw [if_pos (by omega), if_neg (by simp)]
    simp only [pantrymade_Site.f, Option.bind_some]
    rw [alike_self _ _ _ _ _ _ _ (by simp) K (by simp; omega)]
    rfl

end Go.Proofs.YtfcifigemiafgaaDoor.PAll
