import Derived.Test.YtfcifigemiafgaaDoorPAllx0
import Derived.Test.YtfcifigemiafgaaDoorPAllx1
import Derived.Test.YtfcifigemiafgaaDoorPAllx2
import Derived.Test.YtfcifigemiafgaaDoorPAllx3
import Derived.Test.YtfcifigemiafgaaDoorPAllx4
import Derived.Test.YtfcifigemiafgaaDoorPAllx5
import Derived.Test.YtfcifigemiafgaaDoorPAllx6
import Derived.Test.YtfcifigemiafgaaDoorPAllx7
import Derived.Test.YtfcifigemiafgaaDoorPAllx8
import Derived.Test.YtfcifigemiafgaaDoorPAllx9
import Derived.Test.YtfcifigemiafgaaDoorPAllx10
import Derived.Test.YtfcifigemiafgaaDoorPAllx11
import Derived.Test.YtfcifigemiafgaaDoorPAllx12
import Derived.Test.YtfcifigemiafgaaDoorPAllx13
import Derived.Test.YtfcifigemiafgaaDoorPAllx14
import Derived.Test.YtfcifigemiafgaaDoorPAllx15
import Derived.Test.YtfcifigemiafgaaDoorPAllx16
import Derived.Lib.Join
namespace Go.Proofs.YtfcifigemiafgaaDoor.PAll
open Go.RowKit Go.Proofs.YtfcifigemiafgaaDoorW.PrintWords Go.Proofs.YtfcifigemiafgaaDoorW.PrintLast Go.Proofs.YtfcifigemiafgaaDoorW.PrintMore
set_option linter.unusedVariables false
set_option linter.unusedSimpArgs false

theorem lowB_list (s : ByteArray) : (lowB s).data.toList = lowL s.data.toList := by simp [lowB]

/-! ## Sites, as lists -/
theorem w64n {x : Int} (h0 : -9223372036854775808 ≤ x) (h1 : x ≤ 9223372036854775807) : wrap64 x = x := by unfold wrap64; omega
theorem anchor80 : pantrylaw09_anchor.f 80 = some true := by decide +kernel
theorem anchor_ok (k : Nat) (hk : 80 ≤ k) : pantrylaw09_anchor.f k = some true := by
  obtain ⟨j, rfl⟩ : ∃ j, k = 80 + j := ⟨k - 80, by omega⟩
  clear hk
  induction j with
  | zero => exact anchor80
  | succ j ih => exact pantrylaw09_anchor.mono _ _ ih
theorem rdS (l : List S29) (i : Nat) (h : i < l.length) : rd_T29 l (i : Int) = l[i] := by simp [rd_T29, h]
theorem rdR (l : List S38) (i : Nat) (h : i < l.length) : rd_T38 l (i : Int) = l[i] := by simp [rd_T38, h]
theorem rdB (l : List ByteArray) (i : Nat) (h : i < l.length) : rdOf ByteArray.empty l (i : Int) = l[i] := by simp [rdOf, h]
/-- A site as the reference has it. -/
def toR (x : S29) : S38 := ⟨x.f0, x.f1, x.f2, x.f3, x.f4, x.f5, x.f6⟩
theorem cfg_l0 (l : List S29) (hl : l.length ≤ 1000) : ∀ (d i k : Nat) (acc : List S38), i + d = l.length → d < k → acc.length ≤ 1000 + i →
    pantrymade_Config.l0 k l (l.length : Int) (i : Int) acc = some (acc ++ (l.drop i).map toR) := by
  intro d
  induction d with
  | zero =>
    intro i k acc hi hk ha
    obtain ⟨k, rfl⟩ : ∃ j, k = j + 1 := ⟨k - 1, by omega⟩
    simp only [pantrymade_Config.l0]
    rw [if_neg (by omega), List.drop_of_length_le (by omega)]
    simp
  | succ d ih =>
    intro i k acc hi hk ha
    obtain ⟨k, rfl⟩ : ∃ j, k = j + 1 := ⟨k - 1, by omega⟩
    have hlt : i < l.length := by omega
    simp only [pantrymade_Config.l0]
    rw [if_pos (by omega), if_pos (by omega), if_pos (by omega), rdS l i hlt]
    simp only [pantrymade_Site.f, Option.bind_some]
    rw [if_pos (by omega), w64n (by omega) (by omega), show ((i : Int) + 1) = ((i + 1 : Nat) : Int) from by omega, ih (i + 1) k _ (by omega) (by omega) (by simp only [List.length_append, List.length_cons, List.length_nil]; omega), List.drop_eq_getElem_cons hlt, List.map_cons, List.append_assoc]
    rfl
theorem cfg_eval (l : List S29) (hl : l.length ≤ 1000) (k : Nat) (hk : l.length < k) : pantrymade_Config.f k l = some (l.map toR) := by
  have := cfg_l0 l hl l.length 0 k [] (by omega) hk (by simp)
  simpa [pantrymade_Config.f] using this
/-- A site is like itself. -/
theorem alike_l0 (a0 : ByteArray) (a1 a2 a3 : Int) (a4 a5 : Bool) (a6 : List ByteArray) (h6 : a6.length ≤ 1000) : ∀ (d i k : Nat), i + d = a6.length → d < k →
    pantryref09_Alike.l0 k (i : Int) a0 a1 a2 a3 a4 a5 a6 a0 a1 a2 a3 a4 a5 a6 = some true := by
  intro d
  induction d with
  | zero =>
    intro i k hi hk
    obtain ⟨k, rfl⟩ : ∃ j, k = j + 1 := ⟨k - 1, by omega⟩
    simp only [pantryref09_Alike.l0]
    rw [if_neg (by omega)]
  | succ d ih =>
    intro i k hi hk
    obtain ⟨k, rfl⟩ : ∃ j, k = j + 1 := ⟨k - 1, by omega⟩
    simp only [pantryref09_Alike.l0]
    rw [if_pos (by omega), if_pos (by omega), if_pos (by omega), if_pos trivial, w64n (by omega) (by omega)]
    exact ih (i + 1) k (by omega) (by omega)
theorem alike_self (a0 : ByteArray) (a1 a2 a3 : Int) (a4 a5 : Bool) (a6 : List ByteArray) (h6 : a6.length ≤ 1000) (k : Nat) (hk : a6.length + 1 < k) : pantryref09_Alike.f k a0 a1 a2 a3 a4 a5 a6 a0 a1 a2 a3 a4 a5 a6 = some true := by
  obtain ⟨k, rfl⟩ : ∃ j, k = j + 1 := ⟨k - 1, by omega⟩
  unfold pantryref09_Alike.f
  rw [if_pos rfl, if_pos rfl, if_pos rfl, if_pos rfl, if_neg (by simp), if_neg (by simp)]
  simp only [pantryref09_Alike.j0]
  rw [if_neg (by simp)]
  exact alike_l0 a0 a1 a2 a3 a4 a5 a6 h6 a6.length 0 k (by omega) (by omega)

/-! ## Read tells something of every text: its callees -/
theorem c1 (i : Nat) : ((i : Int) + 1) = ((i + 1 : Nat) : Int) := by omega
theorem tot_number_l0 (s : ByteArray) (hs : s.size ≤ 5000) : ∀ (d i k : Nat) (n : Int), i + d = s.size → d < k → ∃ r, sign_Number.l0 k s n (s.size : Int) (i : Int) = some r := by
  intro d
  induction d with
  | zero =>
    intro i k n hi hk
    obtain ⟨k, rfl⟩ : ∃ j, k = j + 1 := ⟨k - 1, by omega⟩
    simp only [sign_Number.l0]
    rw [if_neg (by omega)]
    exact ⟨_, rfl⟩
  | succ d ih =>
    intro i k n hi hk
    obtain ⟨k, rfl⟩ : ∃ j, k = j + 1 := ⟨k - 1, by omega⟩
    simp only [sign_Number.l0]
    rw [if_pos (by omega), if_pos (by omega), if_pos (by omega)]
    by_cases h1 : bt s (i : Int) < 48
    · rw [if_pos h1]; exact ⟨_, rfl⟩
    rw [if_neg h1]
    by_cases h2 : bt s (i : Int) > 57
    · rw [if_pos h2]; exact ⟨_, rfl⟩
    rw [if_neg h2, w64n (x := (i : Int) + 1) (by omega) (by omega), c1]
    exact ih (i + 1) k _ (by omega) (by omega)
theorem tot_number (s : ByteArray) (hs : s.size ≤ 5000) (k : Nat) (hk : 5000 < k) : ∃ r, sign_Number.f k s = some r := tot_number_l0 s hs s.size 0 k 0 (by omega) (by omega)
theorem tot_letter (a : Int) : ∃ b, sign_letter.f a = some b := by unfold sign_letter.f; (repeat' split) <;> exact ⟨_, rfl⟩
theorem tot_pletter (a : Int) : ∃ b, place_letter.f a = some b := by unfold place_letter.f; (repeat' split) <;> exact ⟨_, rfl⟩
theorem tot_token_l0 (s : ByteArray) (hs : s.size ≤ 5000) : ∀ (d i k : Nat), i + d = s.size → d < k → ∃ r, sign_Token.l0 k s (s.size : Int) (i : Int) = some r := by
  intro d
  induction d with
  | zero =>
    intro i k hi hk
    obtain ⟨k, rfl⟩ : ∃ j, k = j + 1 := ⟨k - 1, by omega⟩
    simp only [sign_Token.l0]
    rw [if_neg (by omega)]
    exact ⟨_, rfl⟩
  | succ d ih =>
    intro i k hi hk
    obtain ⟨k, rfl⟩ : ∃ j, k = j + 1 := ⟨k - 1, by omega⟩
    simp only [sign_Token.l0]
    rw [if_pos (by omega), if_pos (by omega), if_pos (by omega)]
    obtain ⟨b, hb⟩ := tot_letter (bt s (i : Int))
    rw [hb]
    simp only [Option.bind_some, strings_IndexByte.f]
    obtain ⟨r, hr⟩ := ih (i + 1) k (by omega) (by omega)
    rw [w64n (x := (i : Int) + 1) (by omega) (by omega), c1, hr]
    (repeat' split) <;> exact ⟨_, rfl⟩
theorem tot_token (s : ByteArray) (hs : s.size ≤ 5000) (k : Nat) (hk : 5000 < k) : ∃ r, sign_Token.f k s = some r := tot_token_l0 s hs s.size 0 k (by omega) (by omega)
theorem tot_head (s : ByteArray) (hs : s.size ≤ 5000) (k : Nat) (hk : 5000 < k) : ∃ r, conf_head.f k s = some r := by
  unfold conf_head.f
  obtain ⟨b, hb⟩ := tot_token s hs k hk
  rw [hb]
  simp only [Option.bind_some]
  have hl : sign_Lower.f s = some (lowB s) := by unfold sign_Lower.f; rw [if_pos (by omega)]
  rw [hl]
  simp only [Option.bind_some]
  (repeat' split) <;> exact ⟨_, rfl⟩
theorem tot_rising_l0 (l : List ByteArray) (hl : l.length ≤ 1000) : ∀ (d i k : Nat), l.length ≤ i + d → 1 ≤ i → i ≤ 2000 → d < k → ∃ r, conf_rising.l0 k l (i : Int) = some r := by
  intro d
  induction d with
  | zero =>
    intro i k hi h1 h2 hk
    obtain ⟨k, rfl⟩ : ∃ j, k = j + 1 := ⟨k - 1, by omega⟩
    simp only [conf_rising.l0]
    rw [if_neg (by omega)]
    exact ⟨_, rfl⟩
  | succ d ih =>
    intro i k hi h1 h2 hk
    obtain ⟨k, rfl⟩ : ∃ j, k = j + 1 := ⟨k - 1, by omega⟩
    simp only [conf_rising.l0]
    by_cases h : (i : Int) < (l.length : Int)
    · obtain ⟨r, hr⟩ := ih (i + 1) k (by omega) (by omega) (by omega) (by omega)
      rw [if_pos h, if_pos (by omega), w64n (x := (i : Int) - 1) (by omega) (by omega), if_pos (by omega), if_pos (by omega), w64n (x := (i : Int) + 1) (by omega) (by omega), c1, hr]
      split <;> exact ⟨_, rfl⟩
    · rw [if_neg h]; exact ⟨_, rfl⟩
theorem tot_rising (l : List ByteArray) (hl : l.length ≤ 1000) (k : Nat) (hk : 1000 < k) : ∃ r, conf_rising.f k l = some r := tot_rising_l0 l hl l.length 1 k (by omega) (by omega) (by omega) (by omega)
theorem tot_only_l0 (s : ByteArray) (ns : List Int) (hs : s.size ≤ 5000) : ∀ (d i k : Nat), i + d = s.size → d < k → ∃ r, place_only.l0 k s ns (s.size : Int) (i : Int) = some r := by
  intro d
  induction d with
  | zero =>
    intro i k hi hk
    obtain ⟨k, rfl⟩ : ∃ j, k = j + 1 := ⟨k - 1, by omega⟩
    simp only [place_only.l0]
    rw [if_neg (by omega)]
    exact ⟨_, rfl⟩
  | succ d ih =>
    intro i k hi hk
    obtain ⟨k, rfl⟩ : ∃ j, k = j + 1 := ⟨k - 1, by omega⟩
    simp only [place_only.l0]
    rw [if_pos (by omega), if_pos (by omega), if_pos (by omega)]
    obtain ⟨b, hb⟩ := tot_pletter (bt s (i : Int))
    rw [hb]
    simp only [Option.bind_some, strings_IndexByte.f]
    obtain ⟨r, hr⟩ := ih (i + 1) k (by omega) (by omega)
    rw [w64n (x := (i : Int) + 1) (by omega) (by omega), c1, hr]
    (repeat' split) <;> exact ⟨_, rfl⟩
theorem drop_le (l : List UInt8) (p : UInt8 → Bool) : (l.dropWhile p).length ≤ l.length := by
  induction l with
  | nil => simp
  | cons a l ih =>
    rw [List.dropWhile_cons]
    split
    · simp only [List.length_cons]; omega
    · exact Nat.le_refl _
theorem cutB_size (s : ByteArray) : (cutB s).size ≤ s.size := by
  unfold cutB
  split
  · rw [ByteArray.size_extract]; omega
  · exact Nat.zero_le _
theorem tot_host_j1 (k : Nat) (a b : ByteArray) (c : Bool) (ha : a.size ≤ 5000) (hb : b.size ≤ 5000) (hk : 0 < k) : ∃ r, place_Host.j1 k a b c = some r := by
  obtain ⟨k, rfl⟩ : ∃ j, k = j + 1 := ⟨k - 1, by omega⟩
  have ht : strings_TrimLeft.f b (⟨#[48]⟩ : ByteArray) = some ⟨(Lib.trimLeftB b.data.toList 48).toArray⟩ := by unfold strings_TrimLeft.f; rw [if_pos rfl]
  have hz : (⟨(Lib.trimLeftB b.data.toList 48).toArray⟩ : ByteArray).size ≤ 5000 := by
    have h1 := drop_le b.data.toList (· == 48)
    have h2 : b.data.toList.length = b.size := Array.length_toList
    show (Lib.trimLeftB b.data.toList 48).toArray.size ≤ 5000
    unfold Lib.trimLeftB
    rw [List.size_toArray]
    omega
  generalize (⟨(Lib.trimLeftB b.data.toList 48).toArray⟩ : ByteArray) = t at *
  have h58 : (⟨#[58]⟩ : ByteArray).size = 1 := rfl
  simp only [place_Host.j1]
  rw [ht]
  simp only [Option.bind_some]
  split
  · exact ⟨_, rfl⟩
  · split
    · rw [if_pos (by omega), if_pos (by rw [ByteArray.size_append]; omega)]; exact ⟨_, rfl⟩
    · rw [if_pos (by omega), if_pos (by rw [ByteArray.size_append]; omega)]; exact ⟨_, rfl⟩
theorem lowB_size (s : ByteArray) : (lowB s).size = s.size := by
  have h : (lowB s).data.toList.length = s.data.toList.length := by simp [lowB, lowL]
  rw [Array.length_toList, Array.length_toList] at h
  exact h
theorem tot_host_j0 (k : Nat) (a b : ByteArray) (n : Int) (c : Bool) (ha : a.size ≤ 5000) (hb : b.size ≤ 5000) (hk : 1 < k) : ∃ r, place_Host.j0 k a b n c = some r := by
  obtain ⟨k, rfl⟩ : ∃ j, k = j + 1 := ⟨k - 1, by omega⟩
  have hl : sign_Lower.f a = some (lowB a) := by unfold sign_Lower.f; rw [if_pos (by omega)]
  simp only [place_Host.j0]
  split
  · exact ⟨_, rfl⟩
  · rw [hl]
    simp only [Option.bind_some]
    split
    · exact tot_host_j1 _ _ _ _ (by rw [lowB_size]; exact ha) hb (by omega)
    · exact tot_host_j1 _ _ _ _ (by rw [lowB_size]; exact ha) hb (by omega)
theorem cutA_size (s : ByteArray) : (cutA s).size ≤ s.size := by
  unfold cutA
  split
  · rw [ByteArray.size_extract]; omega
  · exact Nat.le_refl _
theorem tot_host (s : ByteArray) (hs : s.size ≤ 5000) (k : Nat) (hk : 5000 < k) : ∃ r, place_Host.f k s = some r := by
  have hc : strings_Cut.f s (⟨#[58]⟩ : ByteArray) = some (cutA s, cutB s, cutH s) := by unfold strings_Cut.f; rw [if_pos ⟨rfl, by omega⟩]
  have ha := cutA_size s
  have hb := cutB_size s
  obtain ⟨n, hn⟩ := tot_number (cutB s) (by omega) k hk
  obtain ⟨o, ho⟩ : ∃ r, place_only.f k (cutA s) ([45, 46] : List Int) = some r := tot_only_l0 (cutA s) _ (by omega) (cutA s).size 0 k (by omega) (by omega)
  have hj : ∀ n c, ∃ r, place_Host.j0 k (cutA s) (cutB s) n c = some r := fun n c => tot_host_j0 k _ _ n c (by omega) (by omega) (by omega)
  unfold place_Host.f
  rw [hc]
  simp only [Option.bind_some]
  rw [hn]
  simp only [Option.bind_some]
  rw [ho]
  simp only [Option.bind_some]
  (repeat' split) <;> exact hj _ _
theorem findc_l0 (l : List S29) (host : ByteArray) (hl : l.length ≤ 1000) (hh : ∀ x ∈ l, x.f6.length ≤ 1000) : ∀ (d i k : Nat), i + d = l.length → d < k →
    ∃ r, conf_Config_Find.l0 k host l (l.length : Int) (i : Int) = some r := by
  intro d
  induction d with
  | zero =>
    intro i k hi hk
    obtain ⟨k, rfl⟩ : ∃ j, k = j + 1 := ⟨k - 1, by omega⟩
    simp only [conf_Config_Find.l0]
    rw [if_neg (by omega)]
    exact ⟨_, rfl⟩
  | succ d ih =>
    intro i k hi hk
    obtain ⟨k, rfl⟩ : ∃ j, k = j + 1 := ⟨k - 1, by omega⟩
    have hlt : i < l.length := by omega
    simp only [conf_Config_Find.l0]
    rw [if_pos (by omega), if_pos (by omega), if_pos (by omega), rdS l i hlt]
    by_cases c : l[i].f0.toList = host.toList
    · rw [if_pos c]
      have hc : slices_Clone_string_string.f l[i].f6 = some l[i].f6 := by
        unfold slices_Clone_string_string.f
        rw [if_pos (by have := hh l[i] (List.getElem_mem hlt); omega)]
      rw [hc]
      exact ⟨_, rfl⟩
    · rw [if_neg c, w64n (x := (i : Int) + 1) (by omega) (by omega), c1]
      exact ih (i + 1) k (by omega) (by omega)
theorem find_tot (l : List S29) (host : ByteArray) (hl : l.length ≤ 1000) (hh : ∀ x ∈ l, x.f6.length ≤ 1000) (k : Nat) (hk : 1000 < k) : ∃ r, conf_Config_Find.f k l host = some r := findc_l0 l host hl hh l.length 0 k (by omega) (by omega)
/-! ## The reader: what it keeps, how it goes on -/
/-- What holds of a reader: the last word is empty; words are small, lines are. -/
structure GS (s : RS) : Prop where
  last : ∃ l n, s.ws = l ++ [(emptyB, n)]
  word : ∀ p ∈ s.ws, p.1.size ≤ 4096 ∧ 0 ≤ p.2 ∧ p.2 ≤ 5000
  line : 0 ≤ s.line ∧ s.line ≤ 5000
/-- How many words are left, while all is well. -/
def RS.mu (s : RS) : Nat := if s.code = 0 then s.ws.length else 0
theorem GS.ne {s : RS} (h : GS s) : s.ws ≠ [] := by
  obtain ⟨l, n, e⟩ := h.last
  rw [e]; simp
theorem GS.pos {s : RS} (h : GS s) (hc : s.code = 0) : 0 < s.mu := by
  unfold RS.mu
  rw [if_pos hc]
  exact List.length_pos_iff.2 h.ne
theorem mu_zero {s : RS} (h : s.code ≠ 0) : s.mu = 0 := by unfold RS.mu; rw [if_neg h]
theorem GS.of_mu {s : RS} (h : GS s) (hm : s.mu = 0) : s.code ≠ 0 := fun hc => by have := h.pos hc; omega
theorem GS.next_size {s : RS} (h : GS s) : s.next.size ≤ 4096 := by
  unfold RS.next nextV
  split
  · cases hw : s.ws with
    | nil => exact Nat.zero_le _
    | cons p l => exact (h.word p (by rw [hw]; exact List.mem_cons_self ..)).1
  · exact Nat.zero_le _
theorem GS.fail {s : RS} (h : GS s) (e : Int) : GS (s.fail e) := by
  refine ⟨h.last, h.word, ?_⟩
  show 0 ≤ failL s.ws s.code s.line ∧ failL s.ws s.code s.line ≤ 5000
  unfold failL
  split
  · cases hw : s.ws with
    | nil => exact absurd hw h.ne
    | cons p l => exact (h.word p (by rw [hw]; exact List.mem_cons_self ..)).2
  · exact h.line
theorem fail_mu (s : RS) (e : Int) (he : e ≠ 0) : (s.fail e).mu = 0 := by
  refine mu_zero ?_
  show failC s.code e ≠ 0
  unfold failC
  split
  · exact he
  · assumption
theorem GS.take {s : RS} (h : GS s) : GS s.take := by
  obtain ⟨l, n, e⟩ := h.last
  refine ⟨?_, fun p hp => h.word p ?_, h.line⟩
  · show ∃ l n, takeW s.ws s.code = l ++ [(emptyB, n)]
    unfold takeW
    split
    · rw [e]
      cases l with
      | nil => exact ⟨[], n, rfl⟩
      | cons x l => cases l with
        | nil => exact ⟨[], n, rfl⟩
        | cons y l => exact ⟨y :: l, n, rfl⟩
    · exact ⟨l, n, e⟩
  · have hp' : p ∈ takeW s.ws s.code := hp
    unfold takeW at hp'
    split at hp'
    · split at hp'
      · rename_i h_
        rw [h_]
        exact List.mem_cons_of_mem _ hp'
      · exact hp'
    · exact hp'
theorem take_mu (s : RS) : s.take.mu ≤ s.mu := by
  unfold RS.mu RS.take takeW
  split
  · rename_i hc
    split
    · rename_i h_; rw [h_]; simp
    · exact Nat.le_refl _
  · exact Nat.le_refl _
/-- A word that is not empty is not the last one. -/
theorem GS.take_lt {s : RS} (h : GS s) (hc : s.code = 0) (hn : s.next.toList ≠ []) : s.take.mu < s.mu := by
  obtain ⟨l, n, e⟩ := h.last
  unfold RS.next nextV at hn
  rw [if_pos hc, e] at hn
  unfold RS.mu RS.take takeW
  simp only
  rw [if_pos hc, if_pos hc, if_pos hc, e]
  cases l with
  | nil => exact absurd (by rw [ByteArray.toList_eq]; rfl) hn
  | cons x l => cases l with
    | nil => simp
    | cons y l => simp
theorem GS.must {s : RS} (h : GS s) (t : ByteArray) : GS (s.must t) := by
  unfold RS.must
  split
  · exact h.take
  · exact (h.fail _).take
theorem must_mu (s : RS) (t : ByteArray) : (s.must t).mu ≤ s.mu := by
  unfold RS.must
  split
  · exact take_mu s
  · have := take_mu (s.fail 30); rw [fail_mu s 30 (by decide)] at this; omega
theorem GS.must_lt {s : RS} (h : GS s) (t : ByteArray) (ht : t.toList ≠ []) (hc : s.code = 0) : (s.must t).mu < s.mu := by
  unfold RS.must
  split
  · rename_i e; exact h.take_lt hc (by rw [e]; exact ht)
  · have := take_mu (s.fail 30); rw [fail_mu s 30 (by decide)] at this; have := h.pos hc; omega
theorem GS.number {s : RS} (h : GS s) (n : Int) (ok : Bool) (lo hi : Int) : GS (s.number n ok lo hi) := by
  unfold RS.number
  refine GS.take ?_
  split
  · exact h.fail _
  · split
    · exact h.fail _
    · exact h
theorem number_mu (s : RS) (n : Int) (ok : Bool) (lo hi : Int) : (s.number n ok lo hi).mu ≤ s.mu := by
  unfold RS.number
  refine Nat.le_trans (take_mu _) ?_
  split
  · rw [fail_mu s 30 (by decide)]; exact Nat.zero_le _
  · split
    · rw [fail_mu s 11 (by decide)]; exact Nat.zero_le _
    · exact Nat.le_refl _
theorem ft_mu (s : RS) (e : Int) (he : e ≠ 0) : (s.fail e).take.mu = 0 := by have := take_mu (s.fail e); rw [fail_mu s e he] at this; omega

/-! ## Read tells something of every text: its loops -/
theorem q1 {s : RS} (h : s.next.toList = queryB.toList) : s.next.toList ≠ [] := by rw [h, queryB_list]; exact List.cons_ne_nil _ _
theorem headerB_ne : headerB.toList ≠ [] := by rw [ByteArray.toList_eq]; exact List.cons_ne_nil _ _
theorem semiB_ne : semiB.toList ≠ [] := by rw [ByteArray.toList_eq]; exact List.cons_ne_nil _ _
theorem siteB_ne : siteB.toList ≠ [] := by rw [ByteArray.toList_eq]; exact List.cons_ne_nil _ _
/-- A loop of the key's words. -/
theorem tot_keyL : ∀ (k : Nat) (s : RS) (q : Bool) (hs : List ByteArray), GS s → hs.length ≤ 4 → s.mu + 6000 ≤ k →
    ∃ r, keyL k s q hs = some r ∧ GS r.1 ∧ r.1.mu ≤ s.mu ∧ r.2.2.length ≤ 4
  | 0, _, _, _ => fun _ _ h => by omega
  | k + 1, s, q, hs => fun hg h4 hk => by
    have ih := tot_keyL k
    simp only [keyL]
    by_cases hc : s.code = 0
    · rw [if_pos hc]
      by_cases h1 : s.next.toList = ([59] : List UInt8)
      · rw [if_pos h1]; exact ⟨_, rfl, hg, Nat.le_refl _, h4⟩
      rw [if_neg h1]
      by_cases h2 : s.next.toList = queryB.toList ∧ q = false
      · rw [if_pos h2]
        have hm := hg.take_lt hc (q1 h2.1)
        obtain ⟨r, hr, g1, g2, g3⟩ := ih s.take true hs hg.take h4 (by omega)
        exact ⟨r, hr, g1, by omega, g3⟩
      rw [if_neg h2]
      have hm := hg.must_lt headerB headerB_ne hc
      have hgm := hg.must headerB
      generalize s.must headerB = m at *
      have go : ∀ (m' : RS) (hs' : List ByteArray), GS m' → m'.mu ≤ m.mu → hs'.length ≤ 4 → ∃ r, keyL k m' q hs' = some r ∧ GS r.1 ∧ r.1.mu ≤ s.mu ∧ r.2.2.length ≤ 4 := fun m' hs' hg' hm' h4' => by
        obtain ⟨r, hr, g1, g2, g3⟩ := ih m' q hs' hg' h4' (by omega)
        exact ⟨r, hr, g1, by omega, g3⟩
      have hf : ∀ e : Int, e ≠ 0 → ((m.fail e).take).mu ≤ m.mu := fun e he => by rw [ft_mu m e he]; exact Nat.zero_le _
      by_cases h3 : m.code = 0
      · rw [if_pos h3]
        obtain ⟨b, hb⟩ := tot_head m.next (by have := hgm.next_size; omega) k (by omega)
        rw [hb]
        simp only [Option.bind_some]
        cases b with
        | false => rw [if_neg (by simp)]; exact go _ _ (hgm.fail _).take (hf _ (by decide)) h4
        | true =>
          rw [if_pos rfl]
          obtain ⟨c, hcc⟩ := tot_rising (hs ++ [m.next]) (by rw [List.length_append, List.length_cons, List.length_nil]; omega) k (by omega)
          rw [hcc]
          simp only [Option.bind_some]
          cases c with
          | false => rw [if_neg (by simp)]; exact go _ _ (hgm.fail _).take (hf _ (by decide)) h4
          | true =>
            rw [if_pos rfl]
            by_cases h5 : hs.length = 4
            · rw [if_pos h5]; exact go _ _ (hgm.fail _).take (hf _ (by decide)) h4
            · rw [if_neg h5]; exact go _ _ hgm.take (take_mu m) (by rw [List.length_append, List.length_cons, List.length_nil]; omega)
      · rw [if_neg h3]; exact go _ _ hgm.take (take_mu m) h4
    · rw [if_neg hc]; exact ⟨_, rfl, hg, Nat.le_refl _, h4⟩
theorem tot_ruleB (k : Nat) (n : ByteArray) (s : RS) (x : S29) (hg : GS s) (hx : x.f6.length ≤ 4) (hk : s.mu + 6000 ≤ k) :
    ∃ r, ruleB k n s x = some r ∧ GS r.1 ∧ r.1.mu ≤ s.mu ∧ r.2.f6.length ≤ 4 := by
  have hn := hg.next_size
  unfold ruleB
  split
  · obtain ⟨p, hp⟩ := tot_number s.next (by omega) k (by omega)
    rw [hp]
    exact ⟨_, rfl, hg.number _ _ _ _, number_mu _ _ _ _ _, hx⟩
  · split
    · obtain ⟨p, hp⟩ := tot_number s.next (by omega) k (by omega)
      rw [hp]
      simp only [Option.bind_some]
      have hg2 := hg.number p.1 p.2 0 2147483648
      have hn2 := hg2.next_size
      obtain ⟨p2, hp2⟩ := tot_number (s.number p.1 p.2 0 2147483648).next (by omega) k (by omega)
      rw [hp2]
      exact ⟨_, rfl, hg2.number _ _ _ _, Nat.le_trans (number_mu _ _ _ _ _) (number_mu _ _ _ _ _), hx⟩
    · split
      · have hm := must_mu s pathB
        obtain ⟨r, hr, g1, g2, g3⟩ := tot_keyL k (s.must pathB) false [] (hg.must _) (Nat.zero_le _) (by omega)
        have hr' : keyF k s = some r := hr
        rw [hr']
        exact ⟨_, rfl, g1, Nat.le_trans g2 hm, g3⟩
      · split
        · split
          · exact ⟨_, rfl, hg.take, take_mu s, hx⟩
          · split
            · exact ⟨_, rfl, hg.take, take_mu s, hx⟩
            · exact ⟨_, rfl, (hg.fail _).take, by rw [ft_mu s 30 (by decide)]; exact Nat.zero_le _, hx⟩
        · exact ⟨_, rfl, hg, Nat.le_refl _, hx⟩
theorem GS.ruleA {s : RS} (h : GS s) (seen : List ByteArray) : GS (s.ruleA seen) := by
  unfold RS.ruleA
  refine GS.take ?_
  split
  · refine GS.fail ?_ _
    split
    · exact h
    · exact h.fail _
  · split
    · exact h
    · exact h.fail _
theorem known_ne {n : ByteArray} (h : known n = true) : n.toList ≠ [] := by
  unfold known at h
  intro e
  rw [e] at h
  exact absurd h (by decide)
theorem fail_twice (s : RS) (a b : Int) (ha : a ≠ 0) (hb : b ≠ 0) : ((s.fail a).fail b).take.mu = 0 := ft_mu _ _ hb
/-- Behind a rule's name: less is left; all is well only if the name is a rule's, and new. -/
theorem ruleA_lt {s : RS} (h : GS s) (hc : s.code = 0) (seen : List ByteArray) : (s.ruleA seen).mu < s.mu ∧ ((s.ruleA seen).code = 0 → known s.next = true ∧ inB s.next seen = false) := by
  have hp := h.pos hc
  have ha : (s.ruleA seen).code = 0 → (s.ruleA seen).mu ≠ 0 := fun e => by have := (h.ruleA seen).pos e; omega
  by_cases h1 : inB s.next seen = true
  · have e : (s.ruleA seen).mu = 0 := by unfold RS.ruleA; rw [if_pos h1]; exact ft_mu _ _ (by decide)
    exact ⟨by omega, fun hc2 => absurd e (ha hc2)⟩
  · by_cases h2 : known s.next = true
    · have e : s.ruleA seen = s.take := by unfold RS.ruleA; rw [if_neg h1, if_pos h2]
      rw [e]
      exact ⟨h.take_lt hc (known_ne h2), fun _ => ⟨h2, by simpa using h1⟩⟩
    · have e : (s.ruleA seen).mu = 0 := by unfold RS.ruleA; rw [if_neg h1, if_neg h2]; exact ft_mu _ _ (by decide)
      exact ⟨by omega, fun hc2 => absurd e (ha hc2)⟩
/-- How many of the four names are not seen yet. -/
def unseen (seen : List ByteArray) : Nat :=
  (if inB ⟨#[111, 114, 105, 103, 105, 110]⟩ seen = true then 0 else 1) + (if inB ⟨#[116, 116, 108]⟩ seen = true then 0 else 1) + (if inB ⟨#[107, 101, 121]⟩ seen = true then 0 else 1) + (if inB ⟨#[107, 101, 101, 112]⟩ seen = true then 0 else 1)
theorem inB_cons (n x : ByteArray) (seen : List ByteArray) : inB n (x :: seen) = ((x.data.toList == n.data.toList) || inB n seen) := rfl
theorem inB_eq {n m : ByteArray} (h : n.data.toList = m.data.toList) (seen : List ByteArray) : inB n seen = inB m seen := by unfold inB; rw [h]
theorem unseen_lt {n : ByteArray} {seen : List ByteArray} (hk : known n = true) (hn : inB n seen = false) : unseen (n :: seen) + 1 ≤ unseen seen := by
  have hkn : n.data.toList = [111, 114, 105, 103, 105, 110] ∨ n.data.toList = [116, 116, 108] ∨ n.data.toList = [107, 101, 121] ∨ n.data.toList = [107, 101, 101, 112] := by
    unfold known at hk
    rw [ByteArray.toList_eq] at hk
    simpa [or_assoc] using hk
  have hi : ∀ b : Bool, (if b = true then 0 else 1 : Nat) = if b then 0 else 1 := fun b => rfl
  unfold unseen
  rw [inB_cons, inB_cons, inB_cons, inB_cons]
  rcases hkn with e | e | e | e
  · rw [inB_eq (m := ⟨#[111, 114, 105, 103, 105, 110]⟩) e] at hn
    rw [hn, e]
    generalize inB ⟨#[116, 116, 108]⟩ seen = b1
    generalize inB ⟨#[107, 101, 121]⟩ seen = b2
    generalize inB ⟨#[107, 101, 101, 112]⟩ seen = b3
    cases b1 <;> cases b2 <;> cases b3 <;> decide
  · rw [inB_eq (m := ⟨#[116, 116, 108]⟩) e] at hn
    rw [hn, e]
    generalize inB ⟨#[111, 114, 105, 103, 105, 110]⟩ seen = b1
    generalize inB ⟨#[107, 101, 121]⟩ seen = b2
    generalize inB ⟨#[107, 101, 101, 112]⟩ seen = b3
    cases b1 <;> cases b2 <;> cases b3 <;> decide
  · rw [inB_eq (m := ⟨#[107, 101, 121]⟩) e] at hn
    rw [hn, e]
    generalize inB ⟨#[111, 114, 105, 103, 105, 110]⟩ seen = b1
    generalize inB ⟨#[116, 116, 108]⟩ seen = b2
    generalize inB ⟨#[107, 101, 101, 112]⟩ seen = b3
    cases b1 <;> cases b2 <;> cases b3 <;> decide
  · rw [inB_eq (m := ⟨#[107, 101, 101, 112]⟩) e] at hn
    rw [hn, e]
    generalize inB ⟨#[111, 114, 105, 103, 105, 110]⟩ seen = b1
    generalize inB ⟨#[116, 116, 108]⟩ seen = b2
    generalize inB ⟨#[107, 101, 121]⟩ seen = b3
    cases b1 <;> cases b2 <;> cases b3 <;> decide
theorem tot_ruleF (k : Nat) (s : RS) (x : S29) (seen : List ByteArray) (hg : GS s) (hc : s.code = 0) (hx : x.f6.length ≤ 4) (hk : s.mu + 6000 ≤ k) :
    ∃ r, ruleF k s x seen = some r ∧ GS r.1 ∧ r.1.mu < s.mu ∧ r.2.1.f6.length ≤ 4 ∧ r.2.2 = s.next :: seen ∧ (r.1.code = 0 → known s.next = true ∧ inB s.next seen = false) := by
  obtain ⟨hm, hs⟩ := ruleA_lt hg hc seen
  have hga := hg.ruleA seen
  obtain ⟨p, hp, g1, g2, g3⟩ := tot_ruleB k s.next (s.ruleA seen) x hga hx (by omega)
  have h2 := must_mu p.1 semiB
  refine ⟨(p.1.must semiB, p.2, s.next :: seen), by unfold ruleF; rw [hp]; rfl, g1.must _, Nat.lt_of_le_of_lt (Nat.le_trans h2 g2) hm, g3, rfl, fun e => ?_⟩
  have h3 := (g1.must semiB).pos e
  refine hs ?_
  rcases Classical.em ((s.ruleA seen).code = 0) with h | h
  · exact h
  · have := mu_zero h; omega
theorem tot_rulesL : ∀ (k : Nat) (s : RS) (x : S29) (seen : List ByteArray), GS s → x.f6.length ≤ 4 → (s.code = 0 → seen.length + unseen seen ≤ 4) → s.mu + 6001 ≤ k →
    ∃ r, rulesL k s x seen = some r ∧ GS r.1 ∧ r.1.mu ≤ s.mu ∧ r.2.f6.length ≤ 4
  | 0, _, _, _ => fun _ _ _ h => by omega
  | k + 1, s, x, seen => fun hg hx hs hk => by
    have ih := tot_rulesL k
    simp only [rulesL]
    by_cases hc : s.code = 0
    · rw [if_pos hc]
      by_cases h1 : s.next.toList = ([125] : List UInt8)
      · rw [if_pos h1]; exact ⟨_, rfl, hg, Nat.le_refl _, hx⟩
      rw [if_neg h1, if_pos (by have := hs hc; omega)]
      obtain ⟨p, hp, g1, g2, g3, g4, g5⟩ := tot_ruleF k s x seen hg hc hx (by omega)
      rw [hp]
      simp only [Option.bind_some]
      obtain ⟨r, hr, f1, f2, f3⟩ := ih p.1 p.2.1 p.2.2 g1 g3 (fun e => by
        obtain ⟨e1, e2⟩ := g5 e
        have h3 := unseen_lt e1 e2
        have h4 := hs hc
        rw [g4, List.length_cons]
        omega) (by omega)
      exact ⟨r, hr, f1, by omega, f3⟩
    · rw [if_neg hc]; exact ⟨_, rfl, hg, Nat.le_refl _, hx⟩
theorem tot_siteF (k : Nat) (s : RS) (xs : List S29) (hg : GS s) (hc : s.code = 0) (hxs : xs.length ≤ 8) (hh : ∀ x ∈ xs, x.f6.length ≤ 4) (hk : s.mu + 6001 ≤ k) :
    ∃ r, siteF k s xs = some r ∧ GS r.1 ∧ r.1.mu < s.mu ∧ r.2.f6.length ≤ 4 ∧ (r.1.code = 0 → xs.length < 8) := by
  have hp := hg.pos hc
  have ha : GS (siteA s xs.length) ∧ (siteA s xs.length).mu < s.mu ∧ (xs.length = 8 → (siteA s xs.length).mu = 0) := by
    unfold siteA
    by_cases h1 : s.next.toList = ([115, 105, 116, 101] : List UInt8) ∧ xs.length = 8
    · rw [if_pos h1]
      have h2 := must_mu (s.fail 32) siteB
      rw [fail_mu s 32 (by decide)] at h2
      exact ⟨(hg.fail _).must _, by omega, fun _ => by omega⟩
    · rw [if_neg h1]
      refine ⟨hg.must _, hg.must_lt siteB siteB_ne hc, fun h8 => ?_⟩
      unfold RS.must
      rw [if_neg (fun e => h1 ⟨by rw [e, ByteArray.toList_eq]; rfl, h8⟩)]
      exact ft_mu s 30 (by decide)
  obtain ⟨ga, gm, g8⟩ := ha
  have hn := ga.next_size
  generalize hga : siteA s xs.length = a at *
  obtain ⟨p, hp⟩ := tot_host a.next (by omega) k (by omega)
  obtain ⟨q, hq⟩ := find_tot xs a.next (by omega) (fun x hx => by have := hh x hx; omega) k (by omega)
  have hH : GS (siteH a p.1 p.2) ∧ (siteH a p.1 p.2).mu ≤ a.mu := by
    unfold siteH
    split
    · exact ⟨ga.fail _, by rw [fail_mu a 30 (by decide)]; exact Nat.zero_le _⟩
    · exact ⟨ga, Nat.le_refl _⟩
  obtain ⟨gH, mH⟩ := hH
  generalize hb : (if q.2.2.2.2.2.2.2 = true then (siteH a p.1 p.2).fail 31 else siteH a p.1 p.2) = b at *
  have hB : GS b ∧ b.mu ≤ a.mu := by
    rw [← hb]
    split
    · exact ⟨gH.fail _, by rw [fail_mu _ 31 (by decide)]; exact Nat.zero_le _⟩
    · exact ⟨gH, mH⟩
  obtain ⟨gB, mB⟩ := hB
  have m1 := must_mu b.take openB
  have m2 := take_mu b
  obtain ⟨r, hr, f1, f2, f3⟩ := tot_rulesL k (b.take.must openB) (siteX a.next) [] (gB.take.must _) (Nat.zero_le _) (fun _ => by decide) (by omega)
  have m3 := must_mu r.1 closeB
  refine ⟨(r.1.must closeB, r.2), ?_, f1.must _, Nat.lt_of_le_of_lt (Nat.le_trans m3 (Nat.le_trans f2 (Nat.le_trans m1 (Nat.le_trans m2 mB)))) gm, f3, fun e => ?_⟩
  · unfold siteF
    rw [hga, hp]
    simp only [Option.bind_some]
    rw [hq]
    simp only [Option.bind_some]
    rw [hb, hr]
    rfl
  · have h3 := (f1.must closeB).pos e
    rcases Nat.lt_or_ge xs.length 8 with h | h
    · exact h
    · have := g8 (by omega); omega
theorem tot_readL : ∀ (k : Nat) (s : RS) (xs : List S29), GS s → (s.code = 0 → xs.length ≤ 8) → (∀ x ∈ xs, x.f6.length ≤ 4) → xs.length ≤ 9 → s.mu + 6002 ≤ k →
    ∃ r, readL k s xs = some r ∧ GS r.1 ∧ (∀ x ∈ r.2, x.f6.length ≤ 4) ∧ r.2.length ≤ 9
  | 0, _, _ => fun _ _ _ _ h => by omega
  | k + 1, s, xs => fun hg h8 hh h9 hk => by
    have ih := tot_readL k
    simp only [readL]
    by_cases hc : s.code = 0
    · rw [if_pos hc]
      by_cases h1 : 1 < s.ws.length
      · rw [if_pos h1, if_pos (h8 hc)]
        obtain ⟨p, hp, g1, g2, g3, g4⟩ := tot_siteF k s xs hg hc (h8 hc) hh (by omega)
        rw [hp]
        simp only [Option.bind_some]
        have hl : (xs ++ [p.2]).length = xs.length + 1 := by rw [List.length_append, List.length_cons, List.length_nil]
        exact ih p.1 (xs ++ [p.2]) g1 (fun e => by have := g4 e; omega) (fun x hx => by
          rcases List.mem_append.1 hx with h | h
          · exact hh x h
          · rw [List.mem_singleton.1 h]; exact g3) (by have := h8 hc; omega) (by omega)
      · rw [if_neg h1]; exact ⟨_, rfl, hg, hh, h9⟩
    · rw [if_neg hc]; exact ⟨_, rfl, hg, hh, h9⟩

/-! ## The words of a text -/
def PW (p : WD) : Prop := p.1.size ≤ 4096 ∧ 0 ≤ p.2 ∧ p.2 ≤ 5000
theorem cutW_size (t : ByteArray) (a b : Int) : (cutW t a b).size ≤ t.size := by
  unfold cutW
  rw [ByteArray.size_extract]
  omega
theorem endW_P (t : ByteArray) (ht : t.size ≤ 4096) (out : List WD) (line fr i : Int) (ho : ∀ p ∈ out, PW p) (h0 : 0 ≤ line) (h1 : line ≤ 5000) : ∀ p ∈ endW t out line fr i, PW p := by
  intro p hp
  unfold endW at hp
  split at hp
  · rcases List.mem_append.1 hp with h | h
    · exact ho p h
    · rw [List.mem_singleton.1 h]
      exact ⟨Nat.le_trans (cutW_size _ _ _) ht, h0, h1⟩
  · exact ho p hp
theorem tot_skip (t : ByteArray) : ∀ (d i k : Nat), t.size ≤ i + d → i < t.size → d < k → ∃ j : Nat, skipL k t (i : Int) = some (j : Int) ∧ i ≤ j ∧ j < t.size := by
  intro d
  induction d with
  | zero => intro i k h1 h2 h3; omega
  | succ d ih =>
    intro i k h1 h2 h3
    obtain ⟨k, rfl⟩ : ∃ j, k = j + 1 := ⟨k - 1, by omega⟩
    simp only [skipL]
    by_cases h : (i : Int) + 1 < (t.size : Int)
    · rw [if_pos h]
      by_cases hb : bt t ((i : Int) + 1) = 10
      · rw [if_pos hb]; exact ⟨i, rfl, Nat.le_refl _, h2⟩
      · rw [if_neg hb, c1]
        obtain ⟨j, hj, hj1, hj2⟩ := ih (i + 1) k (by omega) (by omega) (by omega)
        exact ⟨j, hj, by omega, hj2⟩
    · rw [if_neg h]; exact ⟨i, rfl, Nat.le_refl _, h2⟩
theorem tot_wordsL (t : ByteArray) (ht : t.size ≤ 4096) : ∀ (d i k : Nat) (out : List WD) (line fr : Int), t.size ≤ i + d → i ≤ t.size → d + 5000 ≤ k → (∀ p ∈ out, PW p) → 0 ≤ line → line ≤ (i : Int) + 1 →
    ∃ r, wordsL k t out line fr (i : Int) = some r ∧ (∃ l n, r = l ++ [(emptyB, n)]) ∧ ∀ p ∈ r, PW p := by
  intro d
  induction d with
  | zero =>
    intro i k out line fr h1 h2 h3 ho h0 hl
    obtain ⟨k, rfl⟩ : ∃ j, k = j + 1 := ⟨k - 1, by omega⟩
    simp only [wordsL]
    rw [if_neg (by omega)]
    refine ⟨_, rfl, ⟨_, _, rfl⟩, fun p hp => ?_⟩
    rcases List.mem_append.1 hp with h | h
    · exact endW_P t ht out line fr _ ho h0 (by omega) p h
    · rw [List.mem_singleton.1 h]; exact ⟨Nat.zero_le _, h0, by show line ≤ 5000; omega⟩
  | succ d ih =>
    intro i k out line fr h1 h2 h3 ho h0 hl
    rcases Nat.lt_or_ge i t.size with hi | hi
    case inr => exact (by
      obtain ⟨k, rfl⟩ : ∃ j, k = j + 1 := ⟨k - 1, by omega⟩
      simp only [wordsL]
      rw [if_neg (by omega)]
      refine ⟨_, rfl, ⟨_, _, rfl⟩, fun p hp => ?_⟩
      rcases List.mem_append.1 hp with h | h
      · exact endW_P t ht out line fr _ ho h0 (by omega) p h
      · rw [List.mem_singleton.1 h]; exact ⟨Nat.zero_le _, h0, by show line ≤ 5000; omega⟩)
    obtain ⟨k, rfl⟩ : ∃ j, k = j + 1 := ⟨k - 1, by omega⟩
    have he : ∀ i' : Int, ∀ p ∈ endW t out line fr i', PW p := fun i' => endW_P t ht out line fr i' ho h0 (by omega)
    simp only [wordsL]
    rw [if_pos (by omega)]
    by_cases a1 : bt t (i : Int) = 47 ∧ (i : Int) + 1 < (t.size : Int) ∧ bt t ((i : Int) + 1) = 47
    · rw [if_pos a1]
      obtain ⟨j, hj, hj1, hj2⟩ := tot_skip t (t.size - i) i k (by omega) hi (by omega)
      rw [hj]
      simp only [Option.bind_some]
      rw [c1 j]
      exact ih (j + 1) k _ _ _ (by omega) (by omega) (by omega) (he _) h0 (by omega)
    rw [if_neg a1]
    by_cases a2 : bt t (i : Int) = 32 ∨ bt t (i : Int) = 9
    · rw [if_pos a2, c1]; exact ih (i + 1) k _ _ _ (by omega) (by omega) (by omega) (he _) h0 (by omega)
    rw [if_neg a2]
    by_cases a3 : bt t (i : Int) = 10
    · rw [if_pos a3, c1]; exact ih (i + 1) k _ _ _ (by omega) (by omega) (by omega) (he _) (by omega) (by omega)
    rw [if_neg a3]
    by_cases a4 : bt t (i : Int) = 123 ∨ bt t (i : Int) = 125 ∨ bt t (i : Int) = 59
    · rw [if_pos a4, c1]
      refine ih (i + 1) k _ _ _ (by omega) (by omega) (by omega) (fun p hp => ?_) h0 (by omega)
      rcases List.mem_append.1 hp with h | h
      · exact he _ p h
      · rw [List.mem_singleton.1 h]; exact ⟨Nat.le_trans (cutW_size _ _ _) ht, h0, by show line ≤ 5000; omega⟩
    rw [if_neg a4]
    by_cases a5 : fr < 0
    · rw [if_pos a5, c1]; exact ih (i + 1) k _ _ _ (by omega) (by omega) (by omega) ho h0 (by omega)
    · rw [if_neg a5, c1]; exact ih (i + 1) k _ _ _ (by omega) (by omega) (by omega) ho h0 (by omega)
theorem words_up (t : ByteArray) (r : List WD) (k : Nat) (h : wordsF k t = some r) : ∀ d, wordsF (k + d) t = some r
  | 0 => h
  | d + 1 => wordsF_mono _ _ _ (words_up t r k h d)
/-- What Read makes of a text: its words, its reader's end. -/
theorem read_parts (t : ByteArray) (ht : t.size ≤ 4096) : ∃ K ws r, (∀ k, K ≤ k → wordsF k t = some ws) ∧ (∀ k, K ≤ k → readL k ⟨ws, 0, 0⟩ [] = some r) ∧ 0 < ws.length ∧ ws.all (fun p => decide (p.1.size ≤ 4096)) = true ∧ GS r.1 ∧ (∀ x ∈ r.2, x.f6.length ≤ 4) ∧ r.2.length ≤ 9 := by
  obtain ⟨ws, hw, ⟨l, n, hl⟩, hp⟩ := tot_wordsL t ht t.size 0 10000 [] 1 (-1) (by omega) (by omega) (by omega) (fun p hp => absurd hp (by simp)) (by omega) (by omega)
  have hw0 : wordsF 10000 t = some ws := by unfold wordsF; rw [if_pos ht]; exact hw
  have hg : GS ⟨ws, 0, 0⟩ := ⟨⟨l, n, hl⟩, hp, ⟨Int.le_refl _, by show (0 : Int) ≤ 5000; omega⟩⟩
  obtain ⟨r, hr, g1, g2, g3⟩ := tot_readL (ws.length + 10000) ⟨ws, 0, 0⟩ [] hg (fun _ => Nat.zero_le _) (fun x hx => absurd hx (by simp)) (Nat.zero_le _) (by
    have h1 : (RS.mk ws 0 0).mu = ws.length := by unfold RS.mu; rw [if_pos rfl]
    omega)
  have rup : ∀ d, readL (ws.length + 10000 + d) ⟨ws, 0, 0⟩ [] = some r := by
    intro d
    induction d with
    | zero => exact hr
    | succ d ih => exact readL_mono _ _ _ _ ih
  refine ⟨ws.length + 10000, ws, r, fun k hk => ?_, fun k hk => ?_, List.length_pos_iff.2 hg.ne, List.all_eq_true.2 (fun p hp' => decide_eq_true (hp p hp').1), g1, g2, g3⟩
  · have := words_up t ws 10000 hw0 (k - 10000)
    rwa [show 10000 + (k - 10000) = k from by omega] at this
  · have := rup (k - (ws.length + 10000))
    rwa [show ws.length + 10000 + (k - (ws.length + 10000)) = k from by omega] at this
def outR (r : RS × List S29) : List S29 × Int × Int := if r.1.code = 0 ∧ r.1.line = 0 then (r.2, 0, 0) else ([], r.1.code, r.1.line)
theorem read_eq (t : ByteArray) (ht : t.size ≤ 4096) (k : Nat) (ws : List WD) (r : RS × List S29) (hw : wordsF k t = some ws) (hr : readL k ⟨ws, 0, 0⟩ [] = some r) (h0 : 0 < ws.length) (h1 : ws.all (fun p => decide (p.1.size ≤ 4096)) = true) :
    conf_Read.f k t = some (outR r) := by
  unfold conf_Read.f
  rw [if_neg (by omega), hw]
  simp only [Option.bind_some]
  rw [if_pos ⟨h0, h1⟩, hr]
  simp only [Option.bind_some]
  unfold outR
  split <;> rfl
/-! ## A reader whose words lie further down -/
def shW (n : Int) (p : WD) : WD := (p.1, p.2 + n)
def RS.sh (n : Int) (s : RS) : RS := ⟨s.ws.map (shW n), s.code, if s.code = 0 ∨ s.ws = [] then s.line else s.line + n⟩
theorem sh_code (n : Int) (s : RS) : (s.sh n).code = s.code := rfl
theorem sh_ws (n : Int) (s : RS) : (s.sh n).ws = s.ws.map (shW n) := rfl
theorem sh_next (n : Int) (s : RS) : (s.sh n).next = s.next := by
  unfold RS.next nextV
  rw [sh_code, sh_ws]
  cases s.ws <;> rfl
theorem takeW_map (n : Int) (ws : List WD) (c : Int) : takeW (ws.map (shW n)) c = (takeW ws c).map (shW n) := by
  unfold takeW
  split
  · match ws with
    | [] => rfl
    | [x] => rfl
    | x :: y :: l => rfl
  · rfl
theorem takeW_nil (ws : List WD) (c : Int) : (takeW ws c = []) = (ws = []) := by
  unfold takeW
  split
  · match ws with
    | [] => rfl
    | [x] => rfl
    | x :: y :: l => simp
  · rfl
theorem sh_take (n : Int) (s : RS) : (s.sh n).take = s.take.sh n := by
  unfold RS.take RS.sh
  simp only [takeW_map, takeW_nil]
theorem sh_fail (n : Int) (s : RS) (e : Int) (he : e ≠ 0) : (s.sh n).fail e = (s.fail e).sh n := by
  unfold RS.fail RS.sh failC failL
  simp only
  by_cases hc : s.code = 0
  · cases hw : s.ws with
    | nil => simp [hc]
    | cons p l => simp [hc, he, shW]
  · simp [hc]
theorem sh_must (n : Int) (s : RS) (t : ByteArray) : (s.sh n).must t = (s.must t).sh n := by
  unfold RS.must
  rw [sh_next]
  split
  · exact sh_take n s
  · rw [sh_fail n s 30 (by decide), sh_take]
theorem sh_number (n : Int) (s : RS) (m : Int) (ok : Bool) (lo hi : Int) : (s.sh n).number m ok lo hi = (s.number m ok lo hi).sh n := by
  unfold RS.number
  rw [sh_next]
  split
  · rw [sh_fail n s 30 (by decide), sh_take]
  · split
    · rw [sh_fail n s 11 (by decide), sh_take]
    · exact sh_take n s
theorem sh_keyL (n : Int) : ∀ (k : Nat) (s : RS) (q : Bool) (hs : List ByteArray), keyL k (s.sh n) q hs = (keyL k s q hs).map (fun r => (r.1.sh n, r.2))
  | 0, _, _, _ => rfl
  | k + 1, s, q, hs => by
    have ih := sh_keyL n k
    simp only [keyL]
    rw [sh_code, sh_next, sh_take, ih, sh_must]
    by_cases hc : s.code = 0
    · rw [if_pos hc, if_pos hc]
      by_cases h1 : s.next.toList = ([59] : List UInt8)
      · rw [if_pos h1, if_pos h1]; rfl
      rw [if_neg h1, if_neg h1]
      by_cases h2 : s.next.toList = queryB.toList ∧ q = false
      · rw [if_pos h2, if_pos h2]
      rw [if_neg h2, if_neg h2]
      generalize s.must headerB = m
      rw [sh_code, sh_next]
      by_cases h3 : m.code = 0
      · rw [if_pos h3, if_pos h3]
        cases conf_head.f k m.next with
        | none => rfl
        | some b =>
          simp only [Option.bind_some]
          cases b with
          | false => rw [if_neg (by simp), if_neg (by simp), sh_fail n m 30 (by decide), sh_take, ih]
          | true =>
            rw [if_pos rfl, if_pos rfl]
            cases conf_rising.f k (hs ++ [m.next]) with
            | none => rfl
            | some c =>
              simp only [Option.bind_some]
              cases c with
              | false => rw [if_neg (by simp), if_neg (by simp), sh_fail n m 30 (by decide), sh_take, ih]
              | true =>
                rw [if_pos rfl, if_pos rfl]
                by_cases h5 : hs.length = 4
                · rw [if_pos h5, if_pos h5, sh_fail n m 32 (by decide), sh_take, ih]
                · rw [if_neg h5, if_neg h5, sh_take, ih]
      · rw [if_neg h3, if_neg h3, sh_take, ih]
    · rw [if_neg hc, if_neg hc]; rfl
theorem sh_ruleA (n : Int) (s : RS) (seen : List ByteArray) : (s.sh n).ruleA seen = (s.ruleA seen).sh n := by
  unfold RS.ruleA
  rw [sh_next]
  by_cases h1 : inB s.next seen = true
  · rw [if_pos h1, if_pos h1]
    by_cases h2 : known s.next = true
    · rw [if_pos h2, if_pos h2, sh_fail n s 31 (by decide), sh_take]
    · rw [if_neg h2, if_neg h2, sh_fail n s 30 (by decide), sh_fail n _ 31 (by decide), sh_take]
  · rw [if_neg h1, if_neg h1]
    by_cases h2 : known s.next = true
    · rw [if_pos h2, if_pos h2, sh_take]
    · rw [if_neg h2, if_neg h2, sh_fail n s 30 (by decide), sh_take]
theorem sh_ruleB (n : Int) (k : Nat) (w : ByteArray) (s : RS) (x : S29) : ruleB k w (s.sh n) x = (ruleB k w s x).map (fun r => (r.1.sh n, r.2)) := by
  unfold ruleB
  rw [sh_next]
  split
  · cases sign_Number.f k s.next with
    | none => rfl
    | some p => simp only [Option.bind_some, Option.map_some, sh_number]
  · split
    · cases sign_Number.f k s.next with
      | none => rfl
      | some p =>
        simp only [Option.bind_some]
        rw [sh_number, sh_next]
        cases sign_Number.f k (s.number p.1 p.2 0 2147483648).next with
        | none => rfl
        | some p2 => simp only [Option.bind_some, Option.map_some, sh_number]
    · split
      · have : keyF k (s.sh n) = (keyF k s).map (fun r => (r.1.sh n, r.2)) := by unfold keyF; rw [sh_must]; exact sh_keyL n k _ _ _
        rw [this]
        cases keyF k s <;> rfl
      · split
        · rw [sh_take, sh_fail n s 30 (by decide), sh_take]
          split
          · rfl
          · split <;> rfl
        · rfl
theorem sh_ruleF (n : Int) (k : Nat) (s : RS) (x : S29) (seen : List ByteArray) : ruleF k (s.sh n) x seen = (ruleF k s x seen).map (fun r => (r.1.sh n, r.2)) := by
  unfold ruleF
  rw [sh_next, sh_ruleA, sh_ruleB]
  cases ruleB k s.next (s.ruleA seen) x with
  | none => rfl
  | some p => simp only [Option.map_some, Option.bind_some, sh_must]
theorem sh_rulesL (n : Int) : ∀ (k : Nat) (s : RS) (x : S29) (seen : List ByteArray), rulesL k (s.sh n) x seen = (rulesL k s x seen).map (fun r => (r.1.sh n, r.2))
  | 0, _, _, _ => rfl
  | k + 1, s, x, seen => by
    have ih := sh_rulesL n k
    simp only [rulesL]
    rw [sh_code, sh_next, sh_ruleF]
    by_cases hc : s.code = 0
    · rw [if_pos hc, if_pos hc]
      by_cases h1 : s.next.toList = ([125] : List UInt8)
      · rw [if_pos h1, if_pos h1]; rfl
      rw [if_neg h1, if_neg h1]
      by_cases h2 : seen.length < 1000
      · rw [if_pos h2, if_pos h2]
        cases ruleF k s x seen with
        | none => rfl
        | some p => simp only [Option.map_some, Option.bind_some]; exact ih _ _ _
      · rw [if_neg h2, if_neg h2]; rfl
    · rw [if_neg hc, if_neg hc]; rfl
theorem sh_siteA (n : Int) (s : RS) (m : Nat) : siteA (s.sh n) m = (siteA s m).sh n := by
  unfold siteA
  rw [sh_next, sh_fail n s 32 (by decide)]
  split
  · exact sh_must _ _ _
  · exact sh_must _ _ _
theorem sh_siteH (n : Int) (s : RS) (h : ByteArray) (e : Int) : siteH (s.sh n) h e = (siteH s h e).sh n := by
  unfold siteH
  rw [sh_code, sh_next, sh_fail n s 30 (by decide)]
  split <;> rfl
theorem sh_siteF (n : Int) (k : Nat) (s : RS) (xs : List S29) : siteF k (s.sh n) xs = (siteF k s xs).map (fun r => (r.1.sh n, r.2)) := by
  unfold siteF
  rw [sh_siteA, sh_next]
  generalize siteA s xs.length = a
  cases place_Host.f k a.next with
  | none => rfl
  | some p =>
    simp only [Option.bind_some]
    cases conf_Config_Find.f k xs a.next with
    | none => rfl
    | some q =>
      simp only [Option.bind_some]
      rw [sh_siteH, sh_fail n _ 31 (by decide)]
      have e : (if q.2.2.2.2.2.2.2 = true then ((siteH a p.1 p.2).fail 31).sh n else (siteH a p.1 p.2).sh n) = RS.sh n (if q.2.2.2.2.2.2.2 = true then (siteH a p.1 p.2).fail 31 else siteH a p.1 p.2) := by split <;> rfl
      rw [e, sh_take, sh_must, sh_rulesL]
      cases rulesL k ((if q.2.2.2.2.2.2.2 = true then (siteH a p.1 p.2).fail 31 else siteH a p.1 p.2).take.must openB) (siteX a.next) [] with
      | none => rfl
      | some r => simp only [Option.map_some, Option.bind_some, sh_must]
theorem sh_readL (n : Int) : ∀ (k : Nat) (s : RS) (xs : List S29), readL k (s.sh n) xs = (readL k s xs).map (fun r => (r.1.sh n, r.2))
  | 0, _, _ => rfl
  | k + 1, s, xs => by
    have ih := sh_readL n k
    simp only [readL]
    rw [sh_code, sh_ws, List.length_map, sh_siteF]
    by_cases hc : s.code = 0
    · rw [if_pos hc, if_pos hc]
      by_cases h1 : 1 < s.ws.length
      · rw [if_pos h1, if_pos h1]
        by_cases h2 : xs.length ≤ 8
        · rw [if_pos h2, if_pos h2]
          cases siteF k s xs with
          | none => rfl
          | some p => simp only [Option.map_some, Option.bind_some]; exact ih _ _
        · rw [if_neg h2, if_neg h2]; rfl
      · rw [if_neg h1, if_neg h1]; rfl
    · rw [if_neg hc, if_neg hc]; rfl

/-! ## An empty line ahead -/
def nl (t : ByteArray) : ByteArray := (⟨#[10]⟩ : ByteArray) ++ t
def nls : Nat → ByteArray → ByteArray
  | 0, t => t
  | n + 1, t => nl (nls n t)
theorem nl_list (t : ByteArray) : (nl t).data.toList = 10 :: t.data.toList := by
  unfold nl
  rw [ByteArray.data_append, Array.toList_append]
  rfl
theorem nl_size (t : ByteArray) : (nl t).size = t.size + 1 := by
  have h := congrArg List.length (nl_list t)
  rw [List.length_cons, Array.length_toList, Array.length_toList] at h
  exact h
theorem nls_size (t : ByteArray) : ∀ n, (nls n t).size = t.size + n
  | 0 => rfl
  | n + 1 => by
    show (nl (nls n t)).size = _
    rw [nl_size, nls_size t n]; omega
theorem bt_list (t : ByteArray) (i : Nat) : bt t (i : Int) = match t.data.toList[i]? with | some b => (b.toNat : Int) | none => 0 := by
  unfold bt
  by_cases h : i < t.size
  · have h2 : i < t.data.toList.length := by rw [Array.length_toList]; exact h
    rw [dif_pos (by rw [Int.toNat_natCast]; exact h), List.getElem?_eq_getElem h2]
    rfl
  · have h2 : t.data.toList.length ≤ i := by rw [Array.length_toList]; exact Nat.le_of_not_lt h
    rw [dif_neg (by rw [Int.toNat_natCast]; exact h), List.getElem?_eq_none h2]
theorem nl_bt (t : ByteArray) (i : Int) (h : 0 ≤ i) : bt (nl t) (i + 1) = bt t i := by
  obtain ⟨n, rfl⟩ : ∃ n : Nat, i = (n : Int) := ⟨i.toNat, by omega⟩
  rw [c1, bt_list, bt_list, nl_list, List.getElem?_cons_succ]
theorem nl_bt0 (t : ByteArray) : bt (nl t) 0 = 10 := by
  have := bt_list (nl t) 0
  rw [nl_list] at this
  exact this
theorem ba_ext {a b : ByteArray} (h : a.data.toList = b.data.toList) : a = b := by
  obtain ⟨⟨l⟩⟩ := a
  obtain ⟨⟨m⟩⟩ := b
  simp only at h
  rw [h]
theorem nl_cut (t : ByteArray) (a b : Int) (ha : 0 ≤ a) (hb : 0 ≤ b) : cutW (nl t) (a + 1) (b + 1) = cutW t a b := by
  unfold cutW
  obtain ⟨n, rfl⟩ : ∃ n : Nat, a = (n : Int) := ⟨a.toNat, by omega⟩
  obtain ⟨m, rfl⟩ : ∃ n : Nat, b = (n : Int) := ⟨b.toNat, by omega⟩
  rw [c1, c1]
  simp only [Int.toNat_natCast]
  refine ba_ext ?_
  rw [ByteArray.data_extract, ByteArray.data_extract, Array.toList_extract, Array.toList_extract, nl_list]
  simp [List.extract]
theorem nl_skip (t : ByteArray) : ∀ (k : Nat) (i : Int), 0 ≤ i → skipL k (nl t) (i + 1) = (skipL k t i).map (· + 1)
  | 0, _, _ => rfl
  | k + 1, i, h => by
    have ih := nl_skip t k
    simp only [skipL]
    have hz : ((nl t).size : Int) = (t.size : Int) + 1 := by rw [nl_size]; omega
    rw [nl_bt t (i + 1) (by omega), hz]
    by_cases h1 : i + 1 < (t.size : Int)
    · rw [if_pos h1, if_pos (by omega)]
      by_cases h2 : bt t (i + 1) = 10
      · rw [if_pos h2, if_pos h2]; rfl
      · rw [if_neg h2, if_neg h2]; exact ih (i + 1) (by omega)
    · rw [if_neg h1, if_neg (by omega)]; rfl
theorem skip_ge (t : ByteArray) : ∀ (k : Nat) (i j : Int), skipL k t i = some j → i ≤ j
  | 0, _, _, h => by simp [skipL] at h
  | k + 1, i, j, h => by
    have ih := skip_ge t k
    simp only [skipL] at h
    split at h
    · split at h
      · obtain rfl := Option.some.inj h; exact Int.le_refl _
      · have := ih _ _ h; omega
    · obtain rfl := Option.some.inj h; exact Int.le_refl _
/-- Where a word began, one further. -/
def frS (fr : Int) : Int := if fr ≥ 0 then fr + 1 else fr
theorem nl_end (t : ByteArray) (out : List WD) (line fr i : Int) (hi : 0 ≤ i) : endW (nl t) (out.map (shW 1)) (line + 1) (frS fr) (i + 1) = (endW t out line fr i).map (shW 1) := by
  unfold endW frS
  by_cases h : fr ≥ 0
  · simp only [if_pos h]
    rw [if_pos (by omega), nl_cut t fr i h hi, List.map_append]
    rfl
  · simp only [if_neg h]
theorem nl_words (t : ByteArray) : ∀ (k : Nat) (out : List WD) (line fr i : Int), 0 ≤ i → wordsL k (nl t) (out.map (shW 1)) (line + 1) (frS fr) (i + 1) = (wordsL k t out line fr i).map (List.map (shW 1))
  | 0, _, _, _, _, _ => rfl
  | k + 1, out, line, fr, i, h => by
    have ih := nl_words t k
    have hz : ((nl t).size : Int) = (t.size : Int) + 1 := by rw [nl_size]; omega
    have hm : (-1 : Int) = frS (-1) := rfl
    simp only [wordsL]
    rw [nl_bt t i h, nl_bt t (i + 1) (by omega), nl_skip t k i h, nl_end t out line fr i h, hz]
    by_cases a0 : i < (t.size : Int)
    · rw [if_pos a0, if_pos (by omega)]
      by_cases a1 : bt t i = 47 ∧ i + 1 < (t.size : Int) ∧ bt t (i + 1) = 47
      · rw [if_pos a1, if_pos (by omega)]
        cases hs : skipL k t i with
        | none => rfl
        | some j =>
          have hj := skip_ge t k i j hs
          simp only [Option.map_some, Option.bind_some]
          rw [hm]
          exact ih _ _ _ (j + 1) (by omega)
      rw [if_neg a1, if_neg (by omega)]
      by_cases a2 : bt t i = 32 ∨ bt t i = 9
      · rw [if_pos a2, if_pos a2, hm]; exact ih _ _ _ _ (by omega)
      rw [if_neg a2, if_neg a2]
      by_cases a3 : bt t i = 10
      · rw [if_pos a3, if_pos a3, hm]; exact ih _ _ _ _ (by omega)
      rw [if_neg a3, if_neg a3]
      by_cases a4 : bt t i = 123 ∨ bt t i = 125 ∨ bt t i = 59
      · rw [if_pos a4, if_pos a4, hm]
        have e : (endW t out line fr i).map (shW 1) ++ [(cutW (nl t) (i + 1) (i + 1 + 1), line + 1)] = (endW t out line fr i ++ [(cutW t i (i + 1), line)]).map (shW 1) := by
          rw [List.map_append, nl_cut t i (i + 1) h (by omega)]; rfl
        rw [e]
        exact ih _ _ _ _ (by omega)
      rw [if_neg a4, if_neg a4]
      by_cases a5 : fr < 0
      · have e5 : frS fr < 0 := by unfold frS; rw [if_neg (by omega)]; exact a5
        have e6 : i + 1 = frS i := by unfold frS; rw [if_pos h]
        rw [if_pos a5, if_pos e5]
        have := ih out line i (i + 1) (by omega)
        rw [← e6] at this
        exact this
      · have e5 : ¬ frS fr < 0 := by unfold frS; rw [if_pos (by omega)]; omega
        rw [if_neg a5, if_neg e5]; exact ih _ _ _ _ (by omega)
    · rw [if_neg a0, if_neg (by omega)]
      simp only [Option.map_some]
      rw [nl_end t out line fr _ (by omega), List.map_append]
      rfl
theorem nl_wordsF (t : ByteArray) (k : Nat) (ws : List WD) (ht : t.size + 1 ≤ 4096) (h : wordsF k t = some ws) : wordsF (k + 1) (nl t) = some (ws.map (shW 1)) := by
  unfold wordsF at h ⊢
  rw [if_pos (by omega)] at h
  rw [if_pos (by rw [nl_size]; exact ht)]
  have hz : ((nl t).size : Int) = (t.size : Int) + 1 := by rw [nl_size]; omega
  simp only [wordsL]
  rw [if_pos (by omega), nl_bt0, if_neg (fun h_ => absurd h_.1 (by decide)), if_neg (by decide), if_pos rfl]
  have := nl_words t k [] 1 (-1) 0 (by omega)
  rw [h] at this
  exact this
theorem sh_sh (n : Nat) (ws : List WD) : (ws.map (shW (n : Int))).map (shW 1) = ws.map (shW ((n + 1 : Nat) : Int)) := by
  rw [List.map_map]
  congr 1
  funext p
  show (p.1, p.2 + (n : Int) + 1) = (p.1, p.2 + ((n + 1 : Nat) : Int))
  congr 1
  omega
theorem nls_wordsF (t : ByteArray) (k : Nat) (ws : List WD) (h : wordsF k t = some ws) : ∀ n : Nat, t.size + n ≤ 4096 → wordsF (k + n) (nls n t) = some (ws.map (shW (n : Int)))
  | 0, _ => by
    have e : ws.map (shW ((0 : Nat) : Int)) = ws := by
      have : shW ((0 : Nat) : Int) = id := by funext p; show (p.1, p.2 + ((0 : Nat) : Int)) = p; simp
      rw [this, List.map_id]
    rw [e]
    exact h
  | n + 1, hn => by
    have := nl_wordsF (nls n t) (k + n) _ (by rw [nls_size]; omega) (nls_wordsF t k ws h n (by omega))
    rw [sh_sh] at this
    exact this
theorem same_self (l : List S38) (hl : l.length ≤ 1000) (hh : ∀ x ∈ l, x.f6.length ≤ 1000) (k : Nat) (hk : 3000 < k) : pantryref09_Same.f k l l = some true := by
  have loop : ∀ (d i k : Nat), i + d = l.length → d + 1500 < k → pantryref09_Same.l0 k (i : Int) l l = some true := by
    intro d
    induction d with
    | zero =>
      intro i k hi hk
      obtain ⟨k, rfl⟩ : ∃ j, k = j + 1 := ⟨k - 1, by omega⟩
      simp only [pantryref09_Same.l0]
      rw [if_neg (by omega)]
    | succ d ih =>
      intro i k hi hk
      obtain ⟨k, rfl⟩ : ∃ j, k = j + 1 := ⟨k - 1, by omega⟩
      have hlt : i < l.length := by omega
      simp only [pantryref09_Same.l0]
      rw [if_pos (by omega), if_pos (by omega), if_pos (by omega), rdR l i hlt, alike_self _ _ _ _ _ _ _ (hh l[i] (List.getElem_mem hlt)) k (by have := hh l[i] (List.getElem_mem hlt); omega)]
      simp only [Option.bind_some]
      rw [if_pos trivial, w64n (x := (i : Int) + 1) (by omega) (by omega), c1]
      exact ih (i + 1) k (by omega) (by omega)
  unfold pantryref09_Same.f
  rw [if_pos rfl]
  exact loop l.length 0 k (by omega) (by omega)

/-! ## ConfLines -/
theorem lines_l0 (t : ByteArray) (n : Nat) (ht : t.size ≤ 3000) (hn : n ≤ 100) : ∀ (d i k : Nat), i + d = n →
    pantrylaw09_ConfLines.l0 (k + d) t (n : Int) (nls i t) (n : Int) (i : Int) = pantrylaw09_ConfLines.l0 k t (n : Int) (nls n t) (n : Int) (n : Int) := by
  intro d
  induction d with
  | zero =>
    intro i k hi
    obtain rfl : i = n := by omega
    rfl
  | succ d ih =>
    intro i k hi
    show pantrylaw09_ConfLines.l0 (k + d + 1) t (n : Int) (nls i t) (n : Int) (i : Int) = _
    rw [pantrylaw09_ConfLines.l0]
    have hz := nls_size t i
    rw [if_pos (by omega), if_pos (by omega), w64n (x := (i : Int) + 1) (by omega) (by omega), c1]
    exact ih (i + 1) k (by omega)
theorem law_ConfLines (t : ByteArray) (a1 : Int) : ∃ k, pantrylaw09_ConfLines.f k t a1 = some true := by
  by_cases c0 : t.size ≤ 3000 ∧ 0 ≤ a1 ∧ a1 ≤ 100
  case neg => exact (by
    refine ⟨101, ?_⟩
    have jt : pantrylaw09_ConfLines.j0 101 t a1 true = some true := by simp [pantrylaw09_ConfLines.j0]
    unfold pantrylaw09_ConfLines.f
    rw [anchor_ok _ (by omega)]
    simp only [Option.bind_some]
    rw [if_pos trivial]
    by_cases d1 : (t.size : Int) > 3000
    · rw [if_pos d1]; exact jt
    rw [if_neg d1]
    by_cases d2 : a1 < 0
    · rw [if_pos d2]; exact jt
    rw [if_neg d2, decide_eq_true (by omega)]
    exact jt)
  obtain ⟨h1, h2, h3⟩ := c0
  obtain ⟨n, rfl⟩ : ∃ n : Nat, a1 = (n : Int) := ⟨a1.toNat, by omega⟩
  obtain ⟨K, ws, r, hw, hr, hne, hall, hg, hh, h9⟩ := read_parts t (by omega)
  obtain ⟨k, hk⟩ : ∃ k, K + 5000 ≤ k := ⟨_, Nat.le_refl _⟩
  refine ⟨k + 1 + n + 1, ?_⟩
  unfold pantrylaw09_ConfLines.f
  rw [anchor_ok _ (by omega)]
  simp only [Option.bind_some]
  rw [if_pos trivial, if_neg (by omega), if_neg (by omega), decide_eq_false (by omega)]
  rw [pantrylaw09_ConfLines.j0, if_neg (by simp)]
  have h0 := lines_l0 t n h1 (by omega) n 0 (k + 1) (by omega)
  rw [show nls 0 t = t from rfl, show ((0 : Nat) : Int) = 0 from rfl] at h0
  rw [h0, pantrylaw09_ConfLines.l0, if_neg (by omega)]
  have e1 : conf_Read.f k t = some (outR r) := read_eq t (by omega) k ws r (hw k (by omega)) (hr k (by omega)) hne hall
  have w2 : wordsF k (nls n t) = some (ws.map (shW (n : Int))) := by
    have := nls_wordsF t (k - n) ws (hw (k - n) (by omega)) n (by omega)
    rwa [show k - n + n = k from by omega] at this
  have r2 : readL k ⟨ws.map (shW (n : Int)), 0, 0⟩ [] = some (r.1.sh (n : Int), r.2) := by
    have := sh_readL (n : Int) k ⟨ws, 0, 0⟩ []
    rw [hr k (by omega)] at this
    exact this
  have e2 : conf_Read.f k (nls n t) = some (outR (r.1.sh (n : Int), r.2)) := read_eq (nls n t) (by rw [nls_size]; omega) k _ _ w2 r2 (by rw [List.length_map]; exact hne) (by rw [List.all_map]; exact hall)
  rw [e1, e2]
  simp only [Option.bind_some]
  have hs : ∀ l : List S29, l.length ≤ 9 → (∀ x ∈ l, x.f6.length ≤ 4) → ((pantrymade_Config.f k l).bind fun a => (pantrymade_Config.f k l).bind fun b => (pantryref09_Same.f k a b).bind fun c => some c) = some true := by
    intro l hl hx
    rw [cfg_eval l (by omega) k (by omega)]
    simp only [Option.bind_some]
    rw [same_self (l.map toR) (by rw [List.length_map]; omega) (fun x hx' => by
      obtain ⟨y, hy, rfl⟩ := List.mem_map.1 hx'
      have := hx y hy
      show y.f6.length ≤ 1000
      omega) k (by omega)]
    rfl
  by_cases hc : r.1.code = 0
  · have e3 : outR (r.1.sh (n : Int), r.2) = outR r := by
      unfold outR
      have hl : (r.1.sh (n : Int)).line = r.1.line := if_pos (.inl hc)
      simp only [sh_code, hl]
    rw [e3]
    have hcode : (outR r).2.1 = 0 := by unfold outR; split <;> simp_all
    rw [if_pos hcode, if_pos (by simp)]
    refine hs _ ?_ ?_
    · unfold outR; split
      · exact h9
      · exact Nat.zero_le _
    · unfold outR; split
      · exact hh
      · intro x hx; exact absurd hx (by simp)
  · have e3 : outR r = ([], r.1.code, r.1.line) := if_neg (fun h => hc h.1)
    have e4 : outR (r.1.sh (n : Int), r.2) = ([], r.1.code, r.1.line + (n : Int)) := by
      have hl : (r.1.sh (n : Int)).line = r.1.line + (n : Int) := if_neg (fun h => h.elim hc hg.ne)
      unfold outR
      rw [if_neg (fun h => hc h.1)]
      show ([], r.1.code, (r.1.sh (n : Int)).line) = _
      rw [hl]
    rw [e3, e4]
    have hb := hg.line
    simp only
    rw [if_neg hc, w64n (x := r.1.line + (n : Int)) (by omega) (by omega), if_pos (by simp)]
    exact hs [] (Nat.zero_le _) (fun x hx => absurd hx (by simp))

end Go.Proofs.YtfcifigemiafgaaDoor.PAll
