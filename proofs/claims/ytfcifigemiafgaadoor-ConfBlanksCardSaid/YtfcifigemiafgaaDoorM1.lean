import Derived.Test.YtfcifigemiafgaaDoorPAllx0
import Derived.Test.YtfcifigemiafgaaDoorPAllx1
import Derived.Test.YtfcifigemiafgaaDoorPAllx2
import Derived.Test.YtfcifigemiafgaaDoorPAllx3
import Derived.Test.YtfcifigemiafgaaDoorPAllx4
import Derived.Test.YtfcifigemiafgaaDoorPAllx5
import Derived.Test.YtfcifigemiafgaaDoorPAllx6
import Derived.Test.YtfcifigemiafgaaDoorPAllx7
import Derived.Test.YtfcifigemiafgaaDoorPAllx8
import Derived.Test.YtfcifigemiafgaaDoorPAllx9
import Derived.Test.YtfcifigemiafgaaDoorPAllx10
import Derived.Test.YtfcifigemiafgaaDoorPAllx11
import Derived.Test.YtfcifigemiafgaaDoorPAllx12
import Derived.Test.YtfcifigemiafgaaDoorPAllx13
import Derived.Test.YtfcifigemiafgaaDoorPAllx14
import Derived.Test.YtfcifigemiafgaaDoorPAllx15
import Derived.Test.YtfcifigemiafgaaDoorPAllx16
import Derived.Test.YtfcifigemiafgaaDoorPAllx17
import Derived.Lib.Join
namespace Go.Proofs.YtfcifigemiafgaaDoor.PAll
open Go.RowKit Go.Proofs.YtfcifigemiafgaaDoorW.PrintWords Go.Proofs.YtfcifigemiafgaaDoorW.PrintLast Go.Proofs.YtfcifigemiafgaaDoorW.PrintMore
/-! ## Sites, as lists -/
theorem w64n {x : Int} (h0 : -9223372036854775808 ≤ x) (h1 : x ≤ 9223372036854775807) : wrap64 x = x := by unfold wrap64; omega
theorem anchor80 : pantrylaw09_anchor.f 80 = some true := by decide +kernel
theorem anchor_ok (k : Nat) (hk : 80 ≤ k) : pantrylaw09_anchor.f k = some true := by
 obtain ⟨j, rfl⟩ : ∃ j, k = 80 + j := ⟨k - 80, by omega⟩
 clear hk
 induction j with
 | zero => exact anchor80
 | succ j ih => exact pantrylaw09_anchor.mono _ _ ih
theorem rdS (l : List S29) (i : Nat) (h : i < l.length) : rd_T29 l (i : Int) = l[i] := by simp [rd_T29, h]
theorem rdR (l : List S38) (i : Nat) (h : i < l.length) : rd_T38 l (i : Int) = l[i] := by simp [rd_T38, h]
theorem rdB (l : List ByteArray) (i : Nat) (h : i < l.length) : rdOf ByteArray.empty l (i : Int) = l[i] := by simp [rdOf, h]
/-- A site as the reference has it. -/
def toR (x : S29) : S38 := ⟨x.f0, x.f1, x.f2, x.f3, x.f4, x.f5, x.f6⟩
theorem cfg_l0 (l : List S29) (hl : l.length ≤ 1000) : ∀ (d i k : Nat) (acc : List S38), i + d = l.length → d < k → acc.length ≤ 1000 + i →
  pantrymade_Config.l0 k l (l.length : Int) (i : Int) acc = some (acc ++ (l.drop i).map toR) := by
 intro d
 induction d with
 | zero =>
  intro i k acc hi hk ha
  obtain ⟨k, rfl⟩ : ∃ j, k = j + 1 := ⟨k - 1, by omega⟩
  simp only [pantrymade_Config.l0]
  rw [if_neg (by omega), List.drop_of_length_le (by omega)]
  simp
 | succ d ih =>
  intro i k acc hi hk ha
  obtain ⟨k, rfl⟩ : ∃ j, k = j + 1 := ⟨k - 1, by omega⟩
  have hlt : i < l.length := by omega
  simp only [pantrymade_Config.l0]
  rw [if_pos (by omega), if_pos (by omega), if_pos (by omega), rdS l i hlt]
  simp only [pantrymade_Site.f, Option.bind_some]
  rw [if_pos (by omega), w64n (by omega) (by omega), show ((i : Int) + 1) = ((i + 1 : Nat) : Int) from by omega, ih (i + 1) k _ (by omega) (by omega) (by simp only [List.length_append, List.length_cons, List.length_nil]; omega), List.drop_eq_getElem_cons hlt, List.map_cons, List.append_assoc]
  rfl
theorem cfg_eval (l : List S29) (hl : l.length ≤ 1000) (k : Nat) (hk : l.length < k) : pantrymade_Config.f k l = some (l.map toR) := by
 have := cfg_l0 l hl l.length 0 k [] (by omega) hk (by simp)
 simpa [pantrymade_Config.f] using this
/-- A site is like itself. -/
theorem alike_l0 (a0 : ByteArray) (a1 a2 a3 : Int) (a4 a5 : Bool) (a6 : List ByteArray) (h6 : a6.length ≤ 1000) : ∀ (d i k : Nat), i + d = a6.length → d < k →
  pantryref09_Alike.l0 k (i : Int) a0 a1 a2 a3 a4 a5 a6 a0 a1 a2 a3 a4 a5 a6 = some true := by
 intro d
 induction d with
 | zero =>
  intro i k hi hk
  obtain ⟨k, rfl⟩ : ∃ j, k = j + 1 := ⟨k - 1, by omega⟩
  simp only [pantryref09_Alike.l0]
  rw [if_neg (by omega)]
 | succ d ih =>
  intro i k hi hk
  obtain ⟨k, rfl⟩ : ∃ j, k = j + 1 := ⟨k - 1, by omega⟩
  simp only [pantryref09_Alike.l0]
  rw [if_pos (by omega), if_pos (by omega), if_pos (by omega), if_pos trivial, w64n (by omega) (by omega)]
  exact ih (i + 1) k (by omega) (by omega)
theorem alike_self (a0 : ByteArray) (a1 a2 a3 : Int) (a4 a5 : Bool) (a6 : List ByteArray) (h6 : a6.length ≤ 1000) (k : Nat) (hk : a6.length + 1 < k) : pantryref09_Alike.f k a0 a1 a2 a3 a4 a5 a6 a0 a1 a2 a3 a4 a5 a6 = some true := by
 obtain ⟨k, rfl⟩ : ∃ j, k = j + 1 := ⟨k - 1, by omega⟩
 unfold pantryref09_Alike.f
 rw [if_pos rfl, if_pos rfl, if_pos rfl, if_pos rfl, if_neg (by simp), if_neg (by simp)]
 simp only [pantryref09_Alike.j0]
 rw [if_neg (by simp)]
 exact alike_l0 a0 a1 a2 a3 a4 a5 a6 h6 a6.length 0 k (by omega) (by omega)

/-! ## Read tells something of every text: its callees -/
theorem c1 (i : Nat) : ((i : Int) + 1) = ((i + 1 : Nat) : Int) := by omega
theorem tot_number_l0 (s : ByteArray) (hs : s.size ≤ 5000) : ∀ (d i k : Nat) (n : Int), i + d = s.size → d < k → ∃ r, sign_Number.l0 k s n (s.size : Int) (i : Int) = some r := by
 intro d
 induction d with
 | zero =>
  intro i k n hi hk
  obtain ⟨k, rfl⟩ : ∃ j, k = j + 1 := ⟨k - 1, by omega⟩
  simp only [sign_Number.l0]
  rw [if_neg (by omega)]
  exact ⟨_, rfl⟩
 | succ d ih =>
  intro i k n hi hk
  obtain ⟨k, rfl⟩ : ∃ j, k = j + 1 := ⟨k - 1, by omega⟩
  simp only [sign_Number.l0]
  rw [if_pos (by omega), if_pos (by omega), if_pos (by omega)]
  by_cases h1 : bt s (i : Int) < 48
  ·
   rw [if_pos h1]; exact ⟨_, rfl⟩
  rw [if_neg h1]
  by_cases h2 : bt s (i : Int) > 57
  ·
   rw [if_pos h2]; exact ⟨_, rfl⟩
  rw [if_neg h2, w64n (x := (i : Int) + 1) (by omega) (by omega), c1]
  exact ih (i + 1) k _ (by omega) (by omega)
theorem tot_number (s : ByteArray) (hs : s.size ≤ 5000) (k : Nat) (hk : 5000 < k) : ∃ r, sign_Number.f k s = some r := tot_number_l0 s hs s.size 0 k 0 (by omega) (by omega)
theorem tot_letter (a : Int) : ∃ b, sign_letter.f a = some b := by unfold sign_letter.f; (repeat' split) <;> exact ⟨_, rfl⟩
theorem tot_pletter (a : Int) : ∃ b, place_letter.f a = some b := by unfold place_letter.f; (repeat' split) <;> exact ⟨_, rfl⟩
theorem tot_token_l0 (s : ByteArray) (hs : s.size ≤ 5000) : ∀ (d i k : Nat), i + d = s.size → d < k → ∃ r, sign_Token.l0 k s (s.size : Int) (i : Int) = some r := by
 intro d
 induction d with
 | zero =>
  intro i k hi hk
  obtain ⟨k, rfl⟩ : ∃ j, k = j + 1 := ⟨k - 1, by omega⟩
  simp only [sign_Token.l0]
  rw [if_neg (by omega)]
  exact ⟨_, rfl⟩
 | succ d ih =>
  intro i k hi hk
  obtain ⟨k, rfl⟩ : ∃ j, k = j + 1 := ⟨k - 1, by omega⟩
  simp only [sign_Token.l0]
  rw [if_pos (by omega), if_pos (by omega), if_pos (by omega)]
  obtain ⟨b, hb⟩ := tot_letter (bt s (i : Int))
  rw [hb]
  simp only [Option.bind_some, strings_IndexByte.f]
  obtain ⟨r, hr⟩ := ih (i + 1) k (by omega) (by omega)
  rw [w64n (x := (i : Int) + 1) (by omega) (by omega), c1, hr]
  (repeat' split) <;> exact ⟨_, rfl⟩
theorem tot_token (s : ByteArray) (hs : s.size ≤ 5000) (k : Nat) (hk : 5000 < k) : ∃ r, sign_Token.f k s = some r := tot_token_l0 s hs s.size 0 k (by omega) (by omega)
theorem tot_head (s : ByteArray) (hs : s.size ≤ 5000) (k : Nat) (hk : 5000 < k) : ∃ r, conf_head.f k s = some r := by
 unfold conf_head.f
 obtain ⟨b, hb⟩ := tot_token s hs k hk
 rw [hb]
 simp only [Option.bind_some]
 have hl : sign_Lower.f s = some (lowB s) := by unfold sign_Lower.f; rw [if_pos (by omega)]
 rw [hl]
 simp only [Option.bind_some]
 (repeat' split) <;> exact ⟨_, rfl⟩
theorem tot_rising_l0 (l : List ByteArray) (hl : l.length ≤ 1000) : ∀ (d i k : Nat), l.length ≤ i + d → 1 ≤ i → i ≤ 2000 → d < k → ∃ r, conf_rising.l0 k l (i : Int) = some r := by
 intro d
 induction d with
 | zero =>
  intro i k hi h1 h2 hk
  obtain ⟨k, rfl⟩ : ∃ j, k = j + 1 := ⟨k - 1, by omega⟩
  simp only [conf_rising.l0]
  rw [if_neg (by omega)]
  exact ⟨_, rfl⟩
 | succ d ih =>
  intro i k hi h1 h2 hk
  obtain ⟨k, rfl⟩ : ∃ j, k = j + 1 := ⟨k - 1, by omega⟩
  simp only [conf_rising.l0]
  by_cases h : (i : Int) < (l.length : Int)
  ·
   obtain ⟨r, hr⟩ := ih (i + 1) k (by omega) (by omega) (by omega) (by omega)
   rw [if_pos h, if_pos (by omega), w64n (x := (i : Int) - 1) (by omega) (by omega), if_pos (by omega), if_pos (by omega), w64n (x := (i : Int) + 1) (by omega) (by omega), c1, hr]
   split <;> exact ⟨_, rfl⟩
  ·
   rw [if_neg h]; exact ⟨_, rfl⟩
theorem tot_rising (l : List ByteArray) (hl : l.length ≤ 1000) (k : Nat) (hk : 1000 < k) : ∃ r, conf_rising.f k l = some r := tot_rising_l0 l hl l.length 1 k (by omega) (by omega) (by omega) (by omega)
theorem tot_only_l0 (s : ByteArray) (ns : List Int) (hs : s.size ≤ 5000) : ∀ (d i k : Nat), i + d = s.size → d < k → ∃ r, place_only.l0 k s ns (s.size : Int) (i : Int) = some r := by
 intro d
 induction d with
 | zero =>
  intro i k hi hk
  obtain ⟨k, rfl⟩ : ∃ j, k = j + 1 := ⟨k - 1, by omega⟩
  simp only [place_only.l0]
  rw [if_neg (by omega)]
  exact ⟨_, rfl⟩
 | succ d ih =>
  intro i k hi hk
  obtain ⟨k, rfl⟩ : ∃ j, k = j + 1 := ⟨k - 1, by omega⟩
  simp only [place_only.l0]
  rw [if_pos (by omega), if_pos (by omega), if_pos (by omega)]
  obtain ⟨b, hb⟩ := tot_pletter (bt s (i : Int))
  rw [hb]
  simp only [Option.bind_some, strings_IndexByte.f]
  obtain ⟨r, hr⟩ := ih (i + 1) k (by omega) (by omega)
  rw [w64n (x := (i : Int) + 1) (by omega) (by omega), c1, hr]
  (repeat' split) <;> exact ⟨_, rfl⟩
theorem drop_le (l : List UInt8) (p : UInt8 → Bool) : (l.dropWhile p).length ≤ l.length := by
 induction l with
 | nil => simp
 | cons a l ih =>
  rw [List.dropWhile_cons]
  split
  ·
   simp only [List.length_cons]; omega
  ·
   exact Nat.le_refl _
theorem cutB_size (s : ByteArray) : (cutB s).size ≤ s.size := by
 unfold cutB
 split
 ·
  rw [ByteArray.size_extract]; omega
 ·
  exact Nat.zero_le _
theorem tot_host_j1 (k : Nat) (a b : ByteArray) (c : Bool) (ha : a.size ≤ 5000) (hb : b.size ≤ 5000) (hk : 0 < k) : ∃ r, place_Host.j1 k a b c = some r := by
 obtain ⟨k, rfl⟩ : ∃ j, k = j + 1 := ⟨k - 1, by omega⟩
 have ht : strings_TrimLeft.f b (⟨#[48]⟩ : ByteArray) = some ⟨(Lib.trimLeftB b.data.toList 48).toArray⟩ := by unfold strings_TrimLeft.f; rw [if_pos rfl]
 have hz : (⟨(Lib.trimLeftB b.data.toList 48).toArray⟩ : ByteArray).size ≤ 5000 := by
  have h1 := drop_le b.data.toList (· == 48)
  have h2 : b.data.toList.length = b.size := Array.length_toList
  show (Lib.trimLeftB b.data.toList 48).toArray.size ≤ 5000
  unfold Lib.trimLeftB
  rw [List.size_toArray]
  omega
 generalize (⟨(Lib.trimLeftB b.data.toList 48).toArray⟩ : ByteArray) = t at *
 have h58 : (⟨#[58]⟩ : ByteArray).size = 1 := rfl
 simp only [place_Host.j1]
 rw [ht]
 simp only [Option.bind_some]
 split
 ·
  exact ⟨_, rfl⟩
 ·
  split
  ·
   rw [if_pos (by omega), if_pos (by rw [ByteArray.size_append]; omega)]; exact ⟨_, rfl⟩
  ·
   rw [if_pos (by omega), if_pos (by rw [ByteArray.size_append]; omega)]; exact ⟨_, rfl⟩
theorem lowB_size (s : ByteArray) : (lowB s).size = s.size := by
 have h : (lowB s).data.toList.length = s.data.toList.length := by simp [lowB, lowL]
 rw [Array.length_toList, Array.length_toList] at h
 exact h
theorem tot_host_j0 (k : Nat) (a b : ByteArray) (n : Int) (c : Bool) (ha : a.size ≤ 5000) (hb : b.size ≤ 5000) (hk : 1 < k) : ∃ r, place_Host.j0 k a b n c = some r := by
 obtain ⟨k, rfl⟩ : ∃ j, k = j + 1 := ⟨k - 1, by omega⟩
 have hl : sign_Lower.f a = some (lowB a) := by unfold sign_Lower.f; rw [if_pos (by omega)]
 simp only [place_Host.j0]
 split
 ·
  exact ⟨_, rfl⟩
 ·
  rw [hl]
  simp only [Option.bind_some]
  split
  ·
   exact tot_host_j1 _ _ _ _ (by rw [lowB_size]; exact ha) hb (by omega)
  ·
   exact tot_host_j1 _ _ _ _ (by rw [lowB_size]; exact ha) hb (by omega)
theorem cutA_size (s : ByteArray) : (cutA s).size ≤ s.size := by
 unfold cutA
 split
 ·
  rw [ByteArray.size_extract]; omega
 ·
  exact Nat.le_refl _
theorem tot_host (s : ByteArray) (hs : s.size ≤ 5000) (k : Nat) (hk : 5000 < k) : ∃ r, place_Host.f k s = some r := by
 have hc : strings_Cut.f s (⟨#[58]⟩ : ByteArray) = some (cutA s, cutB s, cutH s) := by unfold strings_Cut.f; rw [if_pos ⟨rfl, by omega⟩]
 have ha := cutA_size s
 have hb := cutB_size s
 obtain ⟨n, hn⟩ := tot_number (cutB s) (by omega) k hk
 obtain ⟨o, ho⟩ : ∃ r, place_only.f k (cutA s) ([45, 46] : List Int) = some r := tot_only_l0 (cutA s) _ (by omega) (cutA s).size 0 k (by omega) (by omega)
 have hj : ∀ n c, ∃ r, place_Host.j0 k (cutA s) (cutB s) n c = some r := fun n c => tot_host_j0 k _ _ n c (by omega) (by omega) (by omega)
 unfold place_Host.f
 rw [hc]
 simp only [Option.bind_some]
 rw [hn]
 simp only [Option.bind_some]
 rw [ho]
 simp only [Option.bind_some]
 (repeat' split) <;> exact hj _ _
theorem findc_l0 (l : List S29) (host : ByteArray) (hl : l.length ≤ 1000) (hh : ∀ x ∈ l, x.f6.length ≤ 1000) : ∀ (d i k : Nat), i + d = l.length → d < k →
  ∃ r, conf_Config_Find.l0 k host l (l.length : Int) (i : Int) = some r := by
 intro d
 induction d with
 | zero =>
  intro i k hi hk
  obtain ⟨k, rfl⟩ : ∃ j, k = j + 1 := ⟨k - 1, by omega⟩
  simp only [conf_Config_Find.l0]
  rw [if_neg (by omega)]
  exact ⟨_, rfl⟩
 | succ d ih =>
  intro i k hi hk
  obtain ⟨k, rfl⟩ : ∃ j, k = j + 1 := ⟨k - 1, by omega⟩
  have hlt : i < l.length := by omega
  simp only [conf_Config_Find.l0]
  rw [if_pos (by omega), if_pos (by omega), if_pos (by omega), rdS l i hlt]
  by_cases c : l[i].f0.toList = host.toList
  ·
   rw [if_pos c]
   have hc : slices_Clone_string_string.f l[i].f6 = some l[i].f6 := by
    unfold slices_Clone_string_string.f
    rw [if_pos (by have := hh l[i] (List.getElem_mem hlt); omega)]
   rw [hc]
   exact ⟨_, rfl⟩
  ·
   rw [if_neg c, w64n (x := (i : Int) + 1) (by omega) (by omega), c1]
   exact ih (i + 1) k (by omega) (by omega)
theorem find_tot (l : List S29) (host : ByteArray) (hl : l.length ≤ 1000) (hh : ∀ x ∈ l, x.f6.length ≤ 1000) (k : Nat) (hk : 1000 < k) : ∃ r, conf_Config_Find.f k l host = some r := findc_l0 l host hl hh l.length 0 k (by omega) (by omega)
/-! ## The reader: what it keeps, how it goes on -/
/-- What holds of a reader: the last word is empty; words are small, lines are. -/
structure GS (s : RS) : Prop where
 last : ∃ l n, s.ws = l ++ [(emptyB, n)]
 word : ∀ p ∈ s.ws, p.1.size ≤ 4096 ∧ 0 ≤ p.2 ∧ p.2 ≤ 5000
 line : 0 ≤ s.line ∧ s.line ≤ 5000
/-- How many words are left, while all is well. -/
def RS.mu (s : RS) : Nat := if s.code = 0 then s.ws.length else 0
theorem GS.ne {s : RS} (h : GS s) : s.ws ≠ [] := by
 obtain ⟨l, n, e⟩ := h.last
 rw [e]; simp
theorem GS.pos {s : RS} (h : GS s) (hc : s.code = 0) : 0 < s.mu := by
 unfold RS.mu
 rw [if_pos hc]
 exact List.length_pos_iff.2 h.ne
theorem mu_zero {s : RS} (h : s.code ≠ 0) : s.mu = 0 := by unfold RS.mu; rw [if_neg h]
theorem GS.of_mu {s : RS} (h : GS s) (hm : s.mu = 0) : s.code ≠ 0 := fun hc => by have := h.pos hc; omega
theorem GS.next_size {s : RS} (h : GS s) : s.next.size ≤ 4096 := by
 unfold RS.next nextV
 split
 ·
  cases hw : s.ws with
  | nil => exact Nat.zero_le _
  | cons p l => exact (h.word p (by rw [hw]; exact List.mem_cons_self ..)).1
 ·
  exact Nat.zero_le _
theorem GS.fail {s : RS} (h : GS s) (e : Int) : GS (s.fail e) := by
 refine ⟨h.last, h.word, ?_⟩
 show 0 ≤ failL s.ws s.code s.line ∧ failL s.ws s.code s.line ≤ 5000
 unfold failL
 split
 ·
  cases hw : s.ws with
  | nil => exact absurd hw h.ne
  | cons p l => exact (h.word p (by rw [hw]; exact List.mem_cons_self ..)).2
 ·
  exact h.line
theorem fail_mu (s : RS) (e : Int) (he : e ≠ 0) : (s.fail e).mu = 0 := by
 refine mu_zero ?_
 show failC s.code e ≠ 0
 unfold failC
 split
 ·
  exact he
 ·
  assumption
theorem GS.take {s : RS} (h : GS s) : GS s.take := by
 obtain ⟨l, n, e⟩ := h.last
 refine ⟨?_, fun p hp => h.word p ?_, h.line⟩
 ·
  show ∃ l n, takeW s.ws s.code = l ++ [(emptyB, n)]
  unfold takeW
  split
  ·
   rw [e]
   cases l with
   | nil => exact ⟨[], n, rfl⟩
   | cons x l => cases l with
    | nil => exact ⟨[], n, rfl⟩
    | cons y l => exact ⟨y :: l, n, rfl⟩
  ·
   exact ⟨l, n, e⟩
 ·
  have hp' : p ∈ takeW s.ws s.code := hp
  unfold takeW at hp'
  split at hp'
  ·
   split at hp'
   ·
    rename_i h_
    rw [h_]
    exact List.mem_cons_of_mem _ hp'
   ·
    exact hp'
  ·
   exact hp'
theorem take_mu (s : RS) : s.take.mu ≤ s.mu := by
 unfold RS.mu RS.take takeW
 split
 ·
  rename_i hc
  split
  ·
   rename_i h_; rw [h_]; simp
  ·
   exact Nat.le_refl _
 ·
  exact Nat.le_refl _
/-- A word that is not empty is not the last one. -/
theorem GS.take_lt {s : RS} (h : GS s) (hc : s.code = 0) (hn : s.next.toList ≠ []) : s.take.mu < s.mu := by
 obtain ⟨l, n, e⟩ := h.last
 unfold RS.next nextV at hn
 rw [if_pos hc, e] at hn
 unfold RS.mu RS.take takeW
 simp only
 rw [if_pos hc, if_pos hc, if_pos hc, e]
 cases l with
 | nil => exact absurd (by rw [ByteArray.toList_eq]; rfl) hn
 | cons x l => cases l with
  | nil => simp
  | cons y l => simp
theorem GS.must {s : RS} (h : GS s) (t : ByteArray) : GS (s.must t) := by
 unfold RS.must
 split
 ·
  exact h.take
 ·
  exact (h.fail _).take
theorem must_mu (s : RS) (t : ByteArray) : (s.must t).mu ≤ s.mu := by
 unfold RS.must
 split
 ·
  exact take_mu s
 ·
  have := take_mu (s.fail 30); rw [fail_mu s 30 (by decide)] at this; omega
theorem GS.must_lt {s : RS} (h : GS s) (t : ByteArray) (ht : t.toList ≠ []) (hc : s.code = 0) : (s.must t).mu < s.mu := by
 unfold RS.must
 split
 ·
  rename_i e; exact h.take_lt hc (by rw [e]; exact ht)
 ·
  have := take_mu (s.fail 30); rw [fail_mu s 30 (by decide)] at this; have := h.pos hc; omega
theorem GS.number {s : RS} (h : GS s) (n : Int) (ok : Bool) (lo hi : Int) : GS (s.number n ok lo hi) := by
 unfold RS.number
 refine GS.take ?_
 split
 ·
  exact h.fail _
 ·
  split
  ·
   exact h.fail _
  ·
   exact h
theorem number_mu (s : RS) (n : Int) (ok : Bool) (lo hi : Int) : (s.number n ok lo hi).mu ≤ s.mu := by
 unfold RS.number
 refine Nat.le_trans (take_mu _) ?_
 split
 ·
  rw [fail_mu s 30 (by decide)]; exact Nat.zero_le _
 ·
  split
  ·
   rw [fail_mu s 11 (by decide)]; exact Nat.zero_le _
  ·
   exact Nat.le_refl _
theorem ft_mu (s : RS) (e : Int) (he : e ≠ 0) : (s.fail e).take.mu = 0 := by have := take_mu (s.fail e); rw [fail_mu s e he] at this; omega

/-! ## Read tells something of every text: its loops -/
theorem q1 {s : RS} (h : s.next.toList = queryB.toList) : s.next.toList ≠ [] := by rw [h, queryB_list]; exact List.cons_ne_nil _ _
theorem headerB_ne : headerB.toList ≠ [] := by rw [ByteArray.toList_eq]; exact List.cons_ne_nil _ _
theorem siteB_ne : siteB.toList ≠ [] := by rw [ByteArray.toList_eq]; exact List.cons_ne_nil _ _
/-- A loop of the key's words. -/
theorem tot_keyL : ∀ (k : Nat) (s : RS) (q : Bool) (hs : List ByteArray), GS s → hs.length ≤ 4 → s.mu + 6000 ≤ k →
  ∃ r, keyL k s q hs = some r ∧ GS r.1 ∧ r.1.mu ≤ s.mu ∧ r.2.2.length ≤ 4
 | 0, _, _, _ => fun _ _ h => by omega
 | k + 1, s, q, hs => fun hg h4 hk => by
  have ih := tot_keyL k
  simp only [keyL]
  by_cases hc : s.code = 0
  ·
   rw [if_pos hc]
   by_cases h1 : s.next.toList = ([59] : List UInt8)
   ·
    rw [if_pos h1]; exact ⟨_, rfl, hg, Nat.le_refl _, h4⟩
   rw [if_neg h1]
   by_cases h2 : s.next.toList = queryB.toList ∧ q = false
   ·
    rw [if_pos h2]
    have hm := hg.take_lt hc (q1 h2.1)
    obtain ⟨r, hr, g1, g2, g3⟩ := ih s.take true hs hg.take h4 (by omega)
    exact ⟨r, hr, g1, by omega, g3⟩
   rw [if_neg h2]
   have hm := hg.must_lt headerB headerB_ne hc
   have hgm := hg.must headerB
   generalize s.must headerB = m at *
   have go : ∀ (m' : RS) (hs' : List ByteArray), GS m' → m'.mu ≤ m.mu → hs'.length ≤ 4 → ∃ r, keyL k m' q hs' = some r ∧ GS r.1 ∧ r.1.mu ≤ s.mu ∧ r.2.2.length ≤ 4 := fun m' hs' hg' hm' h4' => by
    obtain ⟨r, hr, g1, g2, g3⟩ := ih m' q hs' hg' h4' (by omega)
    exact ⟨r, hr, g1, by omega, g3⟩
   have hf : ∀ e : Int, e ≠ 0 → ((m.fail e).take).mu ≤ m.mu := fun e he => by rw [ft_mu m e he]; exact Nat.zero_le _
   by_cases h3 : m.code = 0
   ·
    rw [if_pos h3]
    obtain ⟨b, hb⟩ := tot_head m.next (by have := hgm.next_size; omega) k (by omega)
    rw [hb]
    simp only [Option.bind_some]
    cases b with
    | false => rw [if_neg (by simp)]; exact go _ _ (hgm.fail _).take (hf _ (by decide)) h4
    | true =>
     rw [if_pos rfl]
     obtain ⟨c, hcc⟩ := tot_rising (hs ++ [m.next]) (by rw [List.length_append, List.length_cons, List.length_nil]; omega) k (by omega)
     rw [hcc]
     simp only [Option.bind_some]
     cases c with
     | false => rw [if_neg (by simp)]; exact go _ _ (hgm.fail _).take (hf _ (by decide)) h4
     | true =>
      rw [if_pos rfl]
      by_cases h5 : hs.length = 4
      ·
       rw [if_pos h5]; exact go _ _ (hgm.fail _).take (hf _ (by decide)) h4
      ·
       rw [if_neg h5]; exact go _ _ hgm.take (take_mu m) (by rw [List.length_append, List.length_cons, List.length_nil]; omega)
   ·
    rw [if_neg h3]; exact go _ _ hgm.take (take_mu m) h4
  ·
   rw [if_neg hc]; exact ⟨_, rfl, hg, Nat.le_refl _, h4⟩
theorem tot_ruleB (k : Nat) (n : ByteArray) (s : RS) (x : S29) (hg : GS s) (hx : x.f6.length ≤ 4) (hk : s.mu + 6000 ≤ k) :
  ∃ r, ruleB k n s x = some r ∧ GS r.1 ∧ r.1.mu ≤ s.mu ∧ r.2.f6.length ≤ 4 := by
 have hn := hg.next_size
 unfold ruleB
 split
 ·
  obtain ⟨p, hp⟩ := tot_number s.next (by omega) k (by omega)
  rw [hp]
  exact ⟨_, rfl, hg.number _ _ _ _, number_mu _ _ _ _ _, hx⟩
 ·
  split
  ·
   obtain ⟨p, hp⟩ := tot_number s.next (by omega) k (by omega)
   rw [hp]
   simp only [Option.bind_some]
   have hg2 := hg.number p.1 p.2 0 2147483648
   have hn2 := hg2.next_size
   obtain ⟨p2, hp2⟩ := tot_number (s.number p.1 p.2 0 2147483648).next (by omega) k (by omega)
   rw [hp2]
   exact ⟨_, rfl, hg2.number _ _ _ _, Nat.le_trans (number_mu _ _ _ _ _) (number_mu _ _ _ _ _), hx⟩
  ·
   split
   ·
    have hm := must_mu s pathB
    obtain ⟨r, hr, g1, g2, g3⟩ := tot_keyL k (s.must pathB) false [] (hg.must _) (Nat.zero_le _) (by omega)
    have hr' : keyF k s = some r := hr
    rw [hr']
    exact ⟨_, rfl, g1, Nat.le_trans g2 hm, g3⟩
   ·
    split
    ·
     split
     ·
      exact ⟨_, rfl, hg.take, take_mu s, hx⟩
     ·
      split
      ·
       exact ⟨_, rfl, hg.take, take_mu s, hx⟩
      ·
       exact ⟨_, rfl, (hg.fail _).take, by rw [ft_mu s 30 (by decide)]; exact Nat.zero_le _, hx⟩
    ·
     exact ⟨_, rfl, hg, Nat.le_refl _, hx⟩
theorem GS.ruleA {s : RS} (h : GS s) (seen : List ByteArray) : GS (s.ruleA seen) := by
 unfold RS.ruleA
 refine GS.take ?_
 split
 ·
  refine GS.fail ?_ _
  split
  ·
   exact h
  ·
   exact h.fail _
 ·
  split
  ·
   exact h
  ·
   exact h.fail _
theorem known_ne {n : ByteArray} (h : known n = true) : n.toList ≠ [] := by
 unfold known at h
 intro e
 rw [e] at h
 exact absurd h (by decide)
/-- Behind a rule's name: less is left; all is well only if the name is a rule's, and new. -/
theorem ruleA_lt {s : RS} (h : GS s) (hc : s.code = 0) (seen : List ByteArray) : (s.ruleA seen).mu < s.mu ∧ ((s.ruleA seen).code = 0 → known s.next = true ∧ inB s.next seen = false) := by
 have hp := h.pos hc
 have ha : (s.ruleA seen).code = 0 → (s.ruleA seen).mu ≠ 0 := fun e => by have := (h.ruleA seen).pos e; omega
 by_cases h1 : inB s.next seen = true
 ·
  have e : (s.ruleA seen).mu = 0 := by unfold RS.ruleA; rw [if_pos h1]; exact ft_mu _ _ (by decide)
  exact ⟨by omega, fun hc2 => absurd e (ha hc2)⟩
 ·
  by_cases h2 : known s.next = true
  ·
   have e : s.ruleA seen = s.take := by unfold RS.ruleA; rw [if_neg h1, if_pos h2]
   rw [e]
   exact ⟨h.take_lt hc (known_ne h2), fun _ => ⟨h2, by simpa using h1⟩⟩
  ·
   have e : (s.ruleA seen).mu = 0 := by unfold RS.ruleA; rw [if_neg h1, if_neg h2]; exact ft_mu _ _ (by decide)
   exact ⟨by omega, fun hc2 => absurd e (ha hc2)⟩
/-- How many of the four names are not seen yet. -/
def unseen (seen : List ByteArray) : Nat :=
 (if inB ⟨#[111, 114, 105, 103, 105, 110]⟩ seen = true then 0 else 1) + (if inB ⟨#[116, 116, 108]⟩ seen = true then 0 else 1) + (if inB ⟨#[107, 101, 121]⟩ seen = true then 0 else 1) + (if inB ⟨#[107, 101, 101, 112]⟩ seen = true then 0 else 1)
theorem inB_cons (n x : ByteArray) (seen : List ByteArray) : inB n (x :: seen) = ((x.data.toList == n.data.toList) || inB n seen) := rfl
theorem inB_eq {n m : ByteArray} (h : n.data.toList = m.data.toList) (seen : List ByteArray) : inB n seen = inB m seen := by unfold inB; rw [h]
theorem unseen_lt {n : ByteArray} {seen : List ByteArray} (hk : known n = true) (hn : inB n seen = false) : unseen (n :: seen) + 1 ≤ unseen seen := by
 have hkn : n.data.toList = [111, 114, 105, 103, 105, 110] ∨ n.data.toList = [116, 116, 108] ∨ n.data.toList = [107, 101, 121] ∨ n.data.toList = [107, 101, 101, 112] := by
  unfold known at hk
  rw [ByteArray.toList_eq] at hk
  simpa [or_assoc] using hk
 have hi : ∀ b : Bool, (if b = true then 0 else 1 : Nat) = if b then 0 else 1 := fun b => rfl
 unfold unseen
 rw [inB_cons, inB_cons, inB_cons, inB_cons]
 rcases hkn with e | e | e | e
 ·
  rw [inB_eq (m := ⟨#[111, 114, 105, 103, 105, 110]⟩) e] at hn
  rw [hn, e]
  generalize inB ⟨#[116, 116, 108]⟩ seen = b1
  generalize inB ⟨#[107, 101, 121]⟩ seen = b2
  generalize inB ⟨#[107, 101, 101, 112]⟩ seen = b3
  cases b1 <;> cases b2 <;> cases b3 <;> decide
 ·
  rw [inB_eq (m := ⟨#[116, 116, 108]⟩) e] at hn
  rw [hn, e]
  generalize inB ⟨#[111, 114, 105, 103, 105, 110]⟩ seen = b1
  generalize inB ⟨#[107, 101, 121]⟩ seen = b2
  generalize inB ⟨#[107, 101, 101, 112]⟩ seen = b3
  cases b1 <;> cases b2 <;> cases b3 <;> decide
 ·
  rw [inB_eq (m := ⟨#[107, 101, 121]⟩) e] at hn
  rw [hn, e]
  generalize inB ⟨#[111, 114, 105, 103, 105, 110]⟩ seen = b1
  generalize inB ⟨#[116, 116, 108]⟩ seen = b2
  generalize inB ⟨#[107, 101, 101, 112]⟩ seen = b3
  cases b1 <;> cases b2 <;> cases b3 <;> decide
 ·
  rw [inB_eq (m := ⟨#[107, 101, 101, 112]⟩) e] at hn
  rw [hn, e]
  generalize inB ⟨#[111, 114, 105, 103, 105, 110]⟩ seen = b1
  generalize inB ⟨#[116, 116, 108]⟩ seen = b2
  generalize inB ⟨#[107, 101, 121]⟩ seen = b3
  cases b1 <;> cases b2 <;> cases b3 <;> decide
theorem tot_ruleF (k : Nat) (s : RS) (x : S29) (seen : List ByteArray) (hg : GS s) (hc : s.code = 0) (hx : x.f6.length ≤ 4) (hk : s.mu + 6000 ≤ k) :
  ∃ r, ruleF k s x seen = some r ∧ GS r.1 ∧ r.1.mu < s.mu ∧ r.2.1.f6.length ≤ 4 ∧ r.2.2 = s.next :: seen ∧ (r.1.code = 0 → known s.next = true ∧ inB s.next seen = false) := by
 obtain ⟨hm, hs⟩ := ruleA_lt hg hc seen
 have hga := hg.ruleA seen
 obtain ⟨p, hp, g1, g2, g3⟩ := tot_ruleB k s.next (s.ruleA seen) x hga hx (by omega)
 have h2 := must_mu p.1 semiB
 refine ⟨(p.1.must semiB, p.2, s.next :: seen), by unfold ruleF; rw [hp]; rfl, g1.must _, Nat.lt_of_le_of_lt (Nat.le_trans h2 g2) hm, g3, rfl, fun e => ?_⟩
 have h3 := (g1.must semiB).pos e
 refine hs ?_
 rcases Classical.em ((s.ruleA seen).code = 0) with h | h
 ·
  exact h
 ·
  have := mu_zero h; omega
theorem tot_rulesL : ∀ (k : Nat) (s : RS) (x : S29) (seen : List ByteArray), GS s → x.f6.length ≤ 4 → (s.code = 0 → seen.length + unseen seen ≤ 4) → s.mu + 6001 ≤ k →
  ∃ r, rulesL k s x seen = some r ∧ GS r.1 ∧ r.1.mu ≤ s.mu ∧ r.2.f6.length ≤ 4
 | 0, _, _, _ => fun _ _ _ h => by omega
 | k + 1, s, x, seen => fun hg hx hs hk => by
  have ih := tot_rulesL k
  simp only [rulesL]
  by_cases hc : s.code = 0
  ·
   rw [if_pos hc]
   by_cases h1 : s.next.toList = ([125] : List UInt8)
   ·
    rw [if_pos h1]; exact ⟨_, rfl, hg, Nat.le_refl _, hx⟩
   rw [if_neg h1, if_pos (by have := hs hc; omega)]
   obtain ⟨p, hp, g1, g2, g3, g4, g5⟩ := tot_ruleF k s x seen hg hc hx (by omega)
   rw [hp]
   simp only [Option.bind_some]
   obtain ⟨r, hr, f1, f2, f3⟩ := ih p.1 p.2.1 p.2.2 g1 g3 (fun e => by
    obtain ⟨e1, e2⟩ := g5 e
    have h3 := unseen_lt e1 e2
    have h4 := hs hc
    rw [g4, List.length_cons]
    omega) (by omega)
   exact ⟨r, hr, f1, by omega, f3⟩
  ·
   rw [if_neg hc]; exact ⟨_, rfl, hg, Nat.le_refl _, hx⟩
theorem tot_siteF (k : Nat) (s : RS) (xs : List S29) (hg : GS s) (hc : s.code = 0) (hxs : xs.length ≤ 8) (hh : ∀ x ∈ xs, x.f6.length ≤ 4) (hk : s.mu + 6001 ≤ k) :
  ∃ r, siteF k s xs = some r ∧ GS r.1 ∧ r.1.mu < s.mu ∧ r.2.f6.length ≤ 4 ∧ (r.1.code = 0 → xs.length < 8) := by
 have hp := hg.pos hc
 have ha : GS (siteA s xs.length) ∧ (siteA s xs.length).mu < s.mu ∧ (xs.length = 8 → (siteA s xs.length).mu = 0) := by
  unfold siteA
  by_cases h1 : s.next.toList = ([115, 105, 116, 101] : List UInt8) ∧ xs.length = 8
  ·
   rw [if_pos h1]
   have h2 := must_mu (s.fail 32) siteB
   rw [fail_mu s 32 (by decide)] at h2
   exact ⟨(hg.fail _).must _, by omega, fun _ => by omega⟩
  ·
   rw [if_neg h1]
   refine ⟨hg.must _, hg.must_lt siteB siteB_ne hc, fun h8 => ?_⟩
   unfold RS.must
   rw [if_neg (fun e => h1 ⟨by rw [e, ByteArray.toList_eq]; rfl, h8⟩)]
   exact ft_mu s 30 (by decide)
 obtain ⟨ga, gm, g8⟩ := ha
 have hn := ga.next_size
 generalize hga : siteA s xs.length = a at *
 obtain ⟨p, hp⟩ := tot_host a.next (by omega) k (by omega)
 obtain ⟨q, hq⟩ := find_tot xs a.next (by omega) (fun x hx => by have := hh x hx; omega) k (by omega)
 have hH : GS (siteH a p.1 p.2) ∧ (siteH a p.1 p.2).mu ≤ a.mu := by
  unfold siteH
  split
  ·
   exact ⟨ga.fail _, by rw [fail_mu a 30 (by decide)]; exact Nat.zero_le _⟩
  ·
   exact ⟨ga, Nat.le_refl _⟩
 obtain ⟨gH, mH⟩ := hH
 generalize hb : (if q.2.2.2.2.2.2.2 = true then (siteH a p.1 p.2).fail 31 else siteH a p.1 p.2) = b at *
 have hB : GS b ∧ b.mu ≤ a.mu := by
  rw [← hb]
  split
  ·
   exact ⟨gH.fail _, by rw [fail_mu _ 31 (by decide)]; exact Nat.zero_le _⟩
  ·
   exact ⟨gH, mH⟩
 obtain ⟨gB, mB⟩ := hB
 have m1 := must_mu b.take openB
 have m2 := take_mu b
 obtain ⟨r, hr, f1, f2, f3⟩ := tot_rulesL k (b.take.must openB) (siteX a.next) [] (gB.take.must _) (Nat.zero_le _) (fun _ => by decide) (by omega)
 have m3 := must_mu r.1 closeB
 refine ⟨(r.1.must closeB, r.2), ?_, f1.must _, Nat.lt_of_le_of_lt (Nat.le_trans m3 (Nat.le_trans f2 (Nat.le_trans m1 (Nat.le_trans m2 mB)))) gm, f3, fun e => ?_⟩
 ·
  unfold siteF
  rw [hga, hp]
  simp only [Option.bind_some]
  rw [hq]
  simp only [Option.bind_some]
  rw [hb, hr]
  rfl
 ·
  have h3 := (f1.must closeB).pos e
  rcases Nat.lt_or_ge xs.length 8 with h | h
  ·
   exact h
  ·
   have := g8 (by omega); omega
theorem tot_readL : ∀ (k : Nat) (s : RS) (xs : List S29), GS s → (s.code = 0 → xs.length ≤ 8) → (∀ x ∈ xs, x.f6.length ≤ 4) → xs.length ≤ 9 → s.mu + 6002 ≤ k →
  ∃ r, readL k s xs = some r ∧ GS r.1 ∧ (∀ x ∈ r.2, x.f6.length ≤ 4) ∧ r.2.length ≤ 9
 | 0, _, _ => fun _ _ _ _ h => by omega
 | k + 1, s, xs => fun hg h8 hh h9 hk => by
  have ih := tot_readL k
  simp only [readL]
  by_cases hc : s.code = 0
  ·
   rw [if_pos hc]
   by_cases h1 : 1 < s.ws.length
   ·
    rw [if_pos h1, if_pos (h8 hc)]
    obtain ⟨p, hp, g1, g2, g3, g4⟩ := tot_siteF k s xs hg hc (h8 hc) hh (by omega)
    rw [hp]
    simp only [Option.bind_some]
    have hl : (xs ++ [p.2]).length = xs.length + 1 := by rw [List.length_append, List.length_cons, List.length_nil]
    exact ih p.1 (xs ++ [p.2]) g1 (fun e => by have := g4 e; omega) (fun x hx => by
     rcases List.mem_append.1 hx with h | h
     ·
      exact hh x h
     ·
      rw [List.mem_singleton.1 h]; exact g3) (by have := h8 hc; omega) (by omega)
   ·
    rw [if_neg h1]; exact ⟨_, rfl, hg, hh, h9⟩
  ·
   rw [if_neg hc]; exact ⟨_, rfl, hg, hh, h9⟩

/-! ## The words of a text -/
def PW (p : WD) : Prop := p.1.size ≤ 4096 ∧ 0 ≤ p.2 ∧ p.2 ≤ 5000
theorem cutW_size (t : ByteArray) (a b : Int) : (cutW t a b).size ≤ t.size := by
 unfold cutW
 rw [ByteArray.size_extract]
 omega
theorem endW_P (t : ByteArray) (ht : t.size ≤ 4096) (out : List WD) (line fr i : Int) (ho : ∀ p ∈ out, PW p) (h0 : 0 ≤ line) (h1 : line ≤ 5000) : ∀ p ∈ endW t out line fr i, PW p := by
 intro p hp
 unfold endW at hp
 split at hp
 ·
  rcases List.mem_append.1 hp with h | h
  ·
   exact ho p h
  ·
   rw [List.mem_singleton.1 h]
   exact ⟨Nat.le_trans (cutW_size _ _ _) ht, h0, h1⟩
 ·
  exact ho p hp
theorem tot_skip (t : ByteArray) : ∀ (d i k : Nat), t.size ≤ i + d → i < t.size → d < k → ∃ j : Nat, skipL k t (i : Int) = some (j : Int) ∧ i ≤ j ∧ j < t.size := by
 intro d
 induction d with
 | zero => intro i k h1 h2 h3; omega
 | succ d ih =>
  intro i k h1 h2 h3
  obtain ⟨k, rfl⟩ : ∃ j, k = j + 1 := ⟨k - 1, by omega⟩
  simp only [skipL]
  by_cases h : (i : Int) + 1 < (t.size : Int)
  ·
   rw [if_pos h]
   by_cases hb : bt t ((i : Int) + 1) = 10
   ·
    rw [if_pos hb]; exact ⟨i, rfl, Nat.le_refl _, h2⟩
   ·
    rw [if_neg hb, c1]
    obtain ⟨j, hj, hj1, hj2⟩ := ih (i + 1) k (by omega) (by omega) (by omega)
    exact ⟨j, hj, by omega, hj2⟩
  ·
   rw [if_neg h]; exact ⟨i, rfl, Nat.le_refl _, h2⟩
theorem tot_wordsL (t : ByteArray) (ht : t.size ≤ 4096) : ∀ (d i k : Nat) (out : List WD) (line fr : Int), t.size ≤ i + d → i ≤ t.size → d + 5000 ≤ k → (∀ p ∈ out, PW p) → 0 ≤ line → line ≤ (i : Int) + 1 →
  ∃ r, wordsL k t out line fr (i : Int) = some r ∧ (∃ l n, r = l ++ [(emptyB, n)]) ∧ ∀ p ∈ r, PW p := by
 intro d
 induction d with
 | zero =>
  intro i k out line fr h1 h2 h3 ho h0 hl
  obtain ⟨k, rfl⟩ : ∃ j, k = j + 1 := ⟨k - 1, by omega⟩
  simp only [wordsL]
  rw [if_neg (by omega)]
  refine ⟨_, rfl, ⟨_, _, rfl⟩, fun p hp => ?_⟩
  rcases List.mem_append.1 hp with h | h
  ·
   exact endW_P t ht out line fr _ ho h0 (by omega) p h
  ·
   rw [List.mem_singleton.1 h]; exact ⟨Nat.zero_le _, h0, by show line ≤ 5000; omega⟩
 | succ d ih =>
  intro i k out line fr h1 h2 h3 ho h0 hl
  rcases Nat.lt_or_ge i t.size with hi | hi
  case inr => exact (by
   obtain ⟨k, rfl⟩ : ∃ j, k = j + 1 := ⟨k - 1, by omega⟩
   simp only [wordsL]
   rw [if_neg (by omega)]
   refine ⟨_, rfl, ⟨_, _, rfl⟩, fun p hp => ?_⟩
   rcases List.mem_append.1 hp with h | h
   ·
    exact endW_P t ht out line fr _ ho h0 (by omega) p h
   ·
    rw [List.mem_singleton.1 h]; exact ⟨Nat.zero_le _, h0, by show line ≤ 5000; omega⟩)
  obtain ⟨k, rfl⟩ : ∃ j, k = j + 1 := ⟨k - 1, by omega⟩
  have he : ∀ i' : Int, ∀ p ∈ endW t out line fr i', PW p := fun i' => endW_P t ht out line fr i' ho h0 (by omega)
  simp only [wordsL]
  rw [if_pos (by omega)]
  by_cases a1 : bt t (i : Int) = 47 ∧ (i : Int) + 1 < (t.size : Int) ∧ bt t ((i : Int) + 1) = 47
  ·
   rw [if_pos a1]
   obtain ⟨j, hj, hj1, hj2⟩ := tot_skip t (t.size - i) i k (by omega) hi (by omega)
   rw [hj]
   simp only [Option.bind_some]
   rw [c1 j]
   exact ih (j + 1) k _ _ _ (by omega) (by omega) (by omega) (he _) h0 (by omega)
  rw [if_neg a1]
  by_cases a2 : bt t (i : Int) = 32 ∨ bt t (i : Int) = 9
  ·
   rw [if_pos a2, c1]; exact ih (i + 1) k _ _ _ (by omega) (by omega) (by omega) (he _) h0 (by omega)
  rw [if_neg a2]
  by_cases a3 : bt t (i : Int) = 10
  ·
   rw [if_pos a3, c1]; exact ih (i + 1) k _ _ _ (by omega) (by omega) (by omega) (he _) (by omega) (by omega)
  rw [if_neg a3]
  by_cases a4 : bt t (i : Int) = 123 ∨ bt t (i : Int) = 125 ∨ bt t (i : Int) = 59
  ·
   rw [if_pos a4, c1]
   refine ih (i + 1) k _ _ _ (by omega) (by omega) (by omega) (fun p hp => ?_) h0 (by omega)
   rcases List.mem_append.1 hp with h | h
   ·
    exact he _ p h
   ·
    rw [List.mem_singleton.1 h]; exact ⟨Nat.le_trans (cutW_size _ _ _) ht, h0, by show line ≤ 5000; omega⟩
  rw [if_neg a4]
  by_cases a5 : fr < 0
  ·
   rw [if_pos a5, c1]; exact ih (i + 1) k _ _ _ (by omega) (by omega) (by omega) ho h0 (by omega)
  ·
   rw [if_neg a5, c1]; exact ih (i + 1) k _ _ _ (by omega) (by omega) (by omega) ho h0 (by omega)
theorem words_up (t : ByteArray) (r : List WD) (k : Nat) (h : wordsF k t = some r) : ∀ d, wordsF (k + d) t = some r
 | 0 => h
 | d + 1 => wordsF_mono _ _ _ (words_up t r k h d)
/-- What Read makes of a text: its words, its reader's end. -/
theorem read_parts (t : ByteArray) (ht : t.size ≤ 4096) : ∃ K ws r, (∀ k, K ≤ k → wordsF k t = some ws) ∧ (∀ k, K ≤ k → readL k ⟨ws, 0, 0⟩ [] = some r) ∧ 0 < ws.length ∧ ws.all (fun p => decide (p.1.size ≤ 4096)) = true ∧ GS r.1 ∧ (∀ x ∈ r.2, x.f6.length ≤ 4) ∧ r.2.length ≤ 9 := by
 obtain ⟨ws, hw, ⟨l, n, hl⟩, hp⟩ := tot_wordsL t ht t.size 0 10000 [] 1 (-1) (by omega) (by omega) (by omega) (fun p hp => absurd hp (by simp)) (by omega) (by omega)
 have hw0 : wordsF 10000 t = some ws := by unfold wordsF; rw [if_pos ht]; exact hw
 have hg : GS ⟨ws, 0, 0⟩ := ⟨⟨l, n, hl⟩, hp, ⟨Int.le_refl _, by show (0 : Int) ≤ 5000; omega⟩⟩
 obtain ⟨r, hr, g1, g2, g3⟩ := tot_readL (ws.length + 10000) ⟨ws, 0, 0⟩ [] hg (fun _ => Nat.zero_le _) (fun x hx => absurd hx (by simp)) (Nat.zero_le _) (by
  have h1 : (RS.mk ws 0 0).mu = ws.length := by unfold RS.mu; rw [if_pos rfl]
  omega)
 have rup : ∀ d, readL (ws.length + 10000 + d) ⟨ws, 0, 0⟩ [] = some r := by
  intro d
  induction d with
  | zero => exact hr
  | succ d ih => exact readL_mono _ _ _ _ ih
 refine ⟨ws.length + 10000, ws, r, fun k hk => ?_, fun k hk => ?_, List.length_pos_iff.2 hg.ne, List.all_eq_true.2 (fun p hp' => decide_eq_true (hp p hp').1), g1, g2, g3⟩
 ·
  have := words_up t ws 10000 hw0 (k - 10000)
  rwa [show 10000 + (k - 10000) = k from by omega] at this
 ·
  have := rup (k - (ws.length + 10000))
  rwa [show ws.length + 10000 + (k - (ws.length + 10000)) = k from by omega] at this
def outR (r : RS × List S29) : List S29 × Int × Int := if r.1.code = 0 ∧ r.1.line = 0 then (r.2, 0, 0) else ([], r.1.code, r.1.line)
theorem read_eq (t : ByteArray) (ht : t.size ≤ 4096) (k : Nat) (ws : List WD) (r : RS × List S29) (hw : wordsF k t = some ws) (hr : readL k ⟨ws, 0, 0⟩ [] = some r) (h0 : 0 < ws.length) (h1 : ws.all (fun p => decide (p.1.size ≤ 4096)) = true) :
  conf_Read.f k t = some (outR r) := by
 unfold conf_Read.f
 rw [if_neg (by omega), hw]
 simp only [Option.bind_some]
 rw [if_pos ⟨h0, h1⟩, hr]
 simp only [Option.bind_some]
 unfold outR
 split <;> rfl

/-! ## Bytes of a text -/
theorem bt_list (t : ByteArray) (i : Nat) : bt t (i : Int) = match t.data.toList[i]? with | some b => (b.toNat : Int) | none => 0 := by
 unfold bt
 by_cases h : i < t.size
 ·
  have h2 : i < t.data.toList.length := by rw [Array.length_toList]; exact h
  rw [dif_pos (by rw [Int.toNat_natCast]; exact h), List.getElem?_eq_getElem h2]
  rfl
 ·
  have h2 : t.data.toList.length ≤ i := by rw [Array.length_toList]; exact Nat.le_of_not_lt h
  rw [dif_neg (by rw [Int.toNat_natCast]; exact h), List.getElem?_eq_none h2]
theorem ba_ext {a b : ByteArray} (h : a.data.toList = b.data.toList) : a = b := by
 obtain ⟨⟨l⟩⟩ := a
 obtain ⟨⟨m⟩⟩ := b
 simp only at h
 rw [h]
theorem skip_ge (t : ByteArray) : ∀ (k : Nat) (i j : Int), skipL k t i = some j → i ≤ j
 | 0, _, _, h => by simp [skipL] at h
 | k + 1, i, j, h => by
  have ih := skip_ge t k
  simp only [skipL] at h
  split at h
  ·
   split at h
   ·
    obtain rfl := Option.some.inj h; exact Int.le_refl _
   ·
    have := ih _ _ h; omega
  ·
   obtain rfl := Option.some.inj h; exact Int.le_refl _

/-! ## A reader, whatever the lines of its words are -/
def zW (p : WD) : WD := (p.1, 0)
def RS.z (s : RS) : RS := ⟨s.ws.map zW, s.code, 0⟩
theorem z_code (s : RS) : (s.z).code = s.code := rfl
theorem z_ws (s : RS) : (s.z).ws = s.ws.map zW := rfl
theorem z_next (s : RS) : (s.z).next = s.next := by
 unfold RS.next nextV
 rw [z_code, z_ws]
 cases s.ws <;> rfl
theorem takeW_z (ws : List WD) (c : Int) : takeW (ws.map zW) c = (takeW ws c).map zW := by
 unfold takeW
 split
 ·
  match ws with
  | [] => rfl
  | [x] => rfl
  | x :: y :: l => rfl
 ·
  rfl
theorem z_take (s : RS) : s.z.take = s.take.z := by
 unfold RS.take RS.z
 simp only [takeW_z]
theorem z_fail (s : RS) (e : Int) : s.z.fail e = (s.fail e).z := by
 unfold RS.fail RS.z failC failL
 simp only
 by_cases hc : s.code = 0
 ·
  cases hw : s.ws with
  | nil => simp [hc]
  | cons p l => simp [hc, zW]
 ·
  simp [hc]
theorem z_must (s : RS) (t : ByteArray) : (s.z).must t = (s.must t).z := by
 unfold RS.must
 rw [z_next]
 split
 ·
  exact z_take s
 ·
  rw [z_fail s 30, z_take]
theorem z_number (s : RS) (m : Int) (ok : Bool) (lo hi : Int) : (s.z).number m ok lo hi = (s.number m ok lo hi).z := by
 unfold RS.number
 rw [z_next]
 split
 ·
  rw [z_fail s 30, z_take]
 ·
  split
  ·
   rw [z_fail s 11, z_take]
  ·
   exact z_take s
theorem z_keyL : ∀ (k : Nat) (s : RS) (q : Bool) (hs : List ByteArray), keyL k (s.z) q hs = (keyL k s q hs).map (fun r => (r.1.z, r.2))
 | 0, _, _, _ => rfl
 | k + 1, s, q, hs => by
  have ih := z_keyL k
  simp only [keyL]
  rw [z_code, z_next, z_take, ih, z_must]
  by_cases hc : s.code = 0
  ·
   rw [if_pos hc, if_pos hc]
   by_cases h1 : s.next.toList = ([59] : List UInt8)
   ·
    rw [if_pos h1, if_pos h1]; rfl
   rw [if_neg h1, if_neg h1]
   by_cases h2 : s.next.toList = queryB.toList ∧ q = false
   ·
    rw [if_pos h2, if_pos h2]
   rw [if_neg h2, if_neg h2]
   generalize s.must headerB = m
   rw [z_code, z_next]
   by_cases h3 : m.code = 0
   ·
    rw [if_pos h3, if_pos h3]
    cases conf_head.f k m.next with
    | none => rfl
    | some b =>
     simp only [Option.bind_some]
     cases b with
     | false => rw [if_neg (by simp), if_neg (by simp), z_fail m 30, z_take, ih]
     | true =>
      rw [if_pos rfl, if_pos rfl]
      cases conf_rising.f k (hs ++ [m.next]) with
      | none => rfl
      | some c =>
       simp only [Option.bind_some]
       cases c with
       | false => rw [if_neg (by simp), if_neg (by simp), z_fail m 30, z_take, ih]
       | true =>
        rw [if_pos rfl, if_pos rfl]
        by_cases h5 : hs.length = 4
        ·
         rw [if_pos h5, if_pos h5, z_fail m 32, z_take, ih]
        ·
         rw [if_neg h5, if_neg h5, z_take, ih]
   ·
    rw [if_neg h3, if_neg h3, z_take, ih]
  ·
   rw [if_neg hc, if_neg hc]; rfl
theorem z_ruleA (s : RS) (seen : List ByteArray) : (s.z).ruleA seen = (s.ruleA seen).z := by
 unfold RS.ruleA
 rw [z_next]
 by_cases h1 : inB s.next seen = true
 ·
  rw [if_pos h1, if_pos h1]
  by_cases h2 : known s.next = true
  ·
   rw [if_pos h2, if_pos h2, z_fail s 31, z_take]
  ·
   rw [if_neg h2, if_neg h2, z_fail s 30, z_fail _ 31, z_take]
 ·
  rw [if_neg h1, if_neg h1]
  by_cases h2 : known s.next = true
  ·
   rw [if_pos h2, if_pos h2, z_take]
  ·
   rw [if_neg h2, if_neg h2, z_fail s 30, z_take]
theorem z_ruleB (k : Nat) (w : ByteArray) (s : RS) (x : S29) : ruleB k w (s.z) x = (ruleB k w s x).map (fun r => (r.1.z, r.2)) := by
 unfold ruleB
 rw [z_next]
 split
 ·
  cases sign_Number.f k s.next with
  | none => rfl
  | some p => simp only [Option.bind_some, Option.map_some, z_number]
 ·
  split
  ·
   cases sign_Number.f k s.next with
   | none => rfl
   | some p =>
    simp only [Option.bind_some]
    rw [z_number, z_next]
    cases sign_Number.f k (s.number p.1 p.2 0 2147483648).next with
    | none => rfl
    | some p2 => simp only [Option.bind_some, Option.map_some, z_number]
  ·
   split
   ·
    have : keyF k (s.z) = (keyF k s).map (fun r => (r.1.z, r.2)) := by unfold keyF; rw [z_must]; exact z_keyL k _ _ _
    rw [this]
    cases keyF k s <;> rfl
   ·
    split
    ·
     rw [z_take, z_fail s 30, z_take]
     split
     ·
      rfl
     ·
      split <;> rfl
    ·
     rfl
theorem z_ruleF (k : Nat) (s : RS) (x : S29) (seen : List ByteArray) : ruleF k (s.z) x seen = (ruleF k s x seen).map (fun r => (r.1.z, r.2)) := by
 unfold ruleF
 rw [z_next, z_ruleA, z_ruleB]
 cases ruleB k s.next (s.ruleA seen) x with
 | none => rfl
 | some p => simp only [Option.map_some, Option.bind_some, z_must]
theorem z_rulesL : ∀ (k : Nat) (s : RS) (x : S29) (seen : List ByteArray), rulesL k (s.z) x seen = (rulesL k s x seen).map (fun r => (r.1.z, r.2))
 | 0, _, _, _ => rfl
 | k + 1, s, x, seen => by
  have ih := z_rulesL k
  simp only [rulesL]
  rw [z_code, z_next, z_ruleF]
  by_cases hc : s.code = 0
  ·
   rw [if_pos hc, if_pos hc]
   by_cases h1 : s.next.toList = ([125] : List UInt8)
   ·
    rw [if_pos h1, if_pos h1]; rfl
   rw [if_neg h1, if_neg h1]
   by_cases h2 : seen.length < 1000
   ·
    rw [if_pos h2, if_pos h2]
    cases ruleF k s x seen with
    | none => rfl
    | some p => simp only [Option.map_some, Option.bind_some]; exact ih _ _ _
   ·
    rw [if_neg h2, if_neg h2]; rfl
  ·
   rw [if_neg hc, if_neg hc]; rfl
theorem z_siteA (s : RS) (m : Nat) : siteA (s.z) m = (siteA s m).z := by
 unfold siteA
 rw [z_next, z_fail s 32]
 split
 ·
  exact z_must _ _
 ·
  exact z_must _ _
theorem z_siteH (s : RS) (h : ByteArray) (e : Int) : siteH (s.z) h e = (siteH s h e).z := by
 unfold siteH
 rw [z_code, z_next, z_fail s 30]
 split <;> rfl
theorem z_siteF (k : Nat) (s : RS) (xs : List S29) : siteF k (s.z) xs = (siteF k s xs).map (fun r => (r.1.z, r.2)) := by
 unfold siteF
 rw [z_siteA, z_next]
 generalize siteA s xs.length = a
 cases place_Host.f k a.next with
 | none => rfl
 | some p =>
  simp only [Option.bind_some]
  cases conf_Config_Find.f k xs a.next with
  | none => rfl
  | some q =>
   simp only [Option.bind_some]
   rw [z_siteH, z_fail _ 31]
   have e : (if q.2.2.2.2.2.2.2 = true then ((siteH a p.1 p.2).fail 31).z else (siteH a p.1 p.2).z) = RS.z (if q.2.2.2.2.2.2.2 = true then (siteH a p.1 p.2).fail 31 else siteH a p.1 p.2) := by split <;> rfl
   rw [e, z_take, z_must, z_rulesL]
   cases rulesL k ((if q.2.2.2.2.2.2.2 = true then (siteH a p.1 p.2).fail 31 else siteH a p.1 p.2).take.must openB) (siteX a.next) [] with
   | none => rfl
   | some r => simp only [Option.map_some, Option.bind_some, z_must]
theorem z_readL : ∀ (k : Nat) (s : RS) (xs : List S29), readL k (s.z) xs = (readL k s xs).map (fun r => (r.1.z, r.2))
 | 0, _, _ => rfl
 | k + 1, s, xs => by
  have ih := z_readL k
  simp only [readL]
  rw [z_code, z_ws, List.length_map, z_siteF]
  by_cases hc : s.code = 0
  ·
   rw [if_pos hc, if_pos hc]
   by_cases h1 : 1 < s.ws.length
   ·
    rw [if_pos h1, if_pos h1]
    by_cases h2 : xs.length ≤ 8
    ·
     rw [if_pos h2, if_pos h2]
     cases siteF k s xs with
     | none => rfl
     | some p => simp only [Option.map_some, Option.bind_some]; exact ih _ _
    ·
     rw [if_neg h2, if_neg h2]; rfl
   ·
    rw [if_neg h1, if_neg h1]; rfl
  ·
   rw [if_neg hc, if_neg hc]; rfl

/-! ## Where all is well no line is told -/
theorem fail_code (s : RS) (e : Int) (he : e ≠ 0) : (s.fail e).code ≠ 0 := by
 show failC s.code e ≠ 0
 unfold failC
 split
 ·
  exact he
 ·
  assumption
/-- A word that came: it stood there, and was taken. -/
def Z0 (s : RS) : Prop := s.code = 0 → s.line = 0
theorem Z0_take {s : RS} (h : Z0 s) : Z0 s.take := h
theorem Z0_fail {s : RS} (_h : Z0 s) {e : Int} (he : e ≠ 0) : Z0 (s.fail e) := fun hc => absurd hc (fail_code s e he)
theorem Z0_must {s : RS} (h : Z0 s) (t : ByteArray) : Z0 (s.must t) := by
 unfold RS.must
 split
 ·
  exact h
 ·
  exact Z0_fail h (by decide)
theorem Z0_number {s : RS} (h : Z0 s) (n : Int) (ok : Bool) (lo hi : Int) : Z0 (s.number n ok lo hi) := by
 unfold RS.number
 refine Z0_take ?_
 split
 ·
  exact Z0_fail h (by decide)
 ·
  split
  ·
   exact Z0_fail h (by decide)
  ·
   exact h
theorem Z0_keyL : ∀ k s q hs r, keyL k s q hs = some r → Z0 s → Z0 r.1
 | 0, _, _, _, _ => fun h => by simp [keyL] at h
 | k + 1, s, q, hs, r => fun h hs_ => by
  have ih := Z0_keyL k
  simp only [keyL] at h
  split at h
  ·
   split at h
   ·
    obtain rfl := Option.some.inj h
    exact hs_
   ·
    split at h
    ·
     exact ih _ _ _ _ h (Z0_take hs_)
    ·
     split at h
     ·
      obtain ⟨b, _, h⟩ := Option.bind_eq_some_iff.mp h
      split at h
      ·
       obtain ⟨c, _, h⟩ := Option.bind_eq_some_iff.mp h
       split at h
       ·
        split at h
        ·
         exact ih _ _ _ _ h (Z0_take (Z0_fail (Z0_must hs_ _) (by decide)))
        ·
         exact ih _ _ _ _ h (Z0_take (Z0_must hs_ _))
       ·
        exact ih _ _ _ _ h (Z0_take (Z0_fail (Z0_must hs_ _) (by decide)))
      ·
       exact ih _ _ _ _ h (Z0_take (Z0_fail (Z0_must hs_ _) (by decide)))
     ·
      exact ih _ _ _ _ h (Z0_take (Z0_must hs_ _))
  ·
   obtain rfl := Option.some.inj h
   exact hs_
theorem Z0_ruleA {s : RS} (h : Z0 s) (seen : List ByteArray) : Z0 (s.ruleA seen) := by
 unfold RS.ruleA
 refine Z0_take ?_
 split
 ·
  refine Z0_fail ?_ (by decide)
  split
  ·
   exact h
  ·
   exact Z0_fail h (by decide)
 ·
  split
  ·
   exact h
  ·
   exact Z0_fail h (by decide)
theorem Z0_ruleB {k : Nat} {n : ByteArray} {s : RS} {x : S29} {p : RS × S29} (h : ruleB k n s x = some p) (hs : Z0 s) : Z0 p.1 := by
 unfold ruleB at h
 split at h
 ·
  obtain ⟨a, _, h⟩ := Option.bind_eq_some_iff.mp h
  obtain rfl := Option.some.inj h
  exact Z0_number hs _ _ _ _
 ·
  split at h
  ·
   obtain ⟨a, _, h⟩ := Option.bind_eq_some_iff.mp h
   obtain ⟨a2, _, h⟩ := Option.bind_eq_some_iff.mp h
   obtain rfl := Option.some.inj h
   exact Z0_number (Z0_number hs _ _ _ _) _ _ _ _
  ·
   split at h
   ·
    obtain ⟨a, ha, h⟩ := Option.bind_eq_some_iff.mp h
    obtain rfl := Option.some.inj h
    exact Z0_keyL _ _ _ _ _ ha (Z0_must hs _)
   ·
    split at h
    ·
     split at h
     ·
      obtain rfl := Option.some.inj h
      exact Z0_take hs
     ·
      split at h
      ·
       obtain rfl := Option.some.inj h
       exact Z0_take hs
      ·
       obtain rfl := Option.some.inj h
       exact Z0_take (Z0_fail hs (by decide))
    ·
     obtain rfl := Option.some.inj h
     exact hs
theorem Z0_ruleF {k : Nat} {s : RS} {x : S29} {seen : List ByteArray} {r : RS × S29 × List ByteArray} (h : ruleF k s x seen = some r) (hs : Z0 s) : Z0 r.1 ∧ r.2.2 = s.next :: seen := by
 unfold ruleF at h
 obtain ⟨p, hp, h⟩ := Option.bind_eq_some_iff.mp h
 obtain rfl := Option.some.inj h
 exact ⟨Z0_must (Z0_ruleB hp (Z0_ruleA hs _)) _, rfl⟩
theorem Z0_rulesL : ∀ k s x seen r, rulesL k s x seen = some r → Z0 s → Z0 r.1
 | 0, _, _, _, _ => fun h => by simp [rulesL] at h
 | k + 1, s, x, seen, r => fun h hs => by
  have ih := Z0_rulesL k
  simp only [rulesL] at h
  split at h
  ·
   split at h
   ·
    obtain rfl := Option.some.inj h
    exact hs
   ·
    split at h
    ·
     obtain ⟨p, hp, h⟩ := Option.bind_eq_some_iff.mp h
     exact ih _ _ _ _ h (Z0_ruleF hp hs).1
    ·
     cases h
  ·
   obtain rfl := Option.some.inj h
   exact hs
theorem Z0_siteF {k : Nat} {s : RS} {xs : List S29} {r : RS × S29} (h : siteF k s xs = some r) (hs : Z0 s) : Z0 r.1 := by
 have h1 : Z0 (siteA s xs.length) := by
  unfold siteA
  refine Z0_must ?_ _
  split
  ·
   exact Z0_fail hs (by decide)
  ·
   exact hs
 unfold siteF at h
 obtain ⟨p, _, h⟩ := Option.bind_eq_some_iff.mp h
 obtain ⟨q, _, h⟩ := Option.bind_eq_some_iff.mp h
 obtain ⟨a, ha, h⟩ := Option.bind_eq_some_iff.mp h
 obtain rfl := Option.some.inj h
 have h2 : Z0 (siteH (siteA s xs.length) p.1 p.2) := by
  unfold siteH
  split
  ·
   exact Z0_fail h1 (by decide)
  ·
   exact h1
 refine Z0_must (Z0_rulesL _ _ _ _ _ ha (Z0_must (Z0_take ?_) _)) _
 split
 ·
  exact Z0_fail h2 (by decide)
 ·
  exact h2
/-- Where Read's loop begins: the reader and the config are made. -/
theorem Z0_readL : ∀ (k : Nat) (s : RS) (xs : List S29) (r : RS × List S29), readL k s xs = some r → Z0 s → Z0 r.1
 | 0, _, _, _ => fun h => by simp [readL] at h
 | k + 1, s, xs, r => fun h hs => by
  have ih := Z0_readL k
  simp only [readL] at h
  split at h
  ·
   split at h
   ·
    split at h
    ·
     obtain ⟨p, hp, h⟩ := Option.bind_eq_some_iff.mp h
     exact ih _ _ _ h (Z0_siteF hp hs)
    ·
     cases h
   ·
    obtain rfl := Option.some.inj h; exact hs
  ·
   obtain rfl := Option.some.inj h; exact hs
/-! ## The words of a text, as lists of bytes -/
def blkT (c : UInt8) : Bool := c == 32 || c == 9 || c == 10
def brcT (c : UInt8) : Bool := c == 123 || c == 125 || c == 59
def flT (cur : List UInt8) : List (List UInt8) := if cur = [] then [] else [cur]
/-- In a remark or not; the word so far; what follows. -/
def tok : Bool → List UInt8 → List UInt8 → List (List UInt8)
 | _, cur, [] => flT cur ++ [[]]
 | true, cur, c :: l => if c = 10 then flT cur ++ tok false [] l else tok true cur l
 | false, cur, c :: l => if c = 47 ∧ l.head? = some 47 then flT cur ++ tok true [] l else if blkT c = true then flT cur ++ tok false [] l
   else if brcT c = true then flT cur ++ ([c] :: tok false [] l) else tok false (cur ++ [c]) l
def firsts (l : List WD) : List (List UInt8) := l.map fun p => p.1.data.toList
theorem firsts_app (a b : List WD) : firsts (a ++ b) = firsts a ++ firsts b := List.map_append
theorem bt_i (t : ByteArray) (i : Nat) (h : i < t.size) : ∃ c, t.data.toList.drop i = c :: t.data.toList.drop (i + 1) ∧ t.data.toList[i]? = some c ∧ bt t (i : Int) = (c.toNat : Int) := by
 have h2 : i < t.data.toList.length := by rw [Array.length_toList]; exact h
 have e : t.data.toList[i]? = some t.data.toList[i] := List.getElem?_eq_getElem h2
 refine ⟨t.data.toList[i], List.drop_eq_getElem_cons h2, e, ?_⟩
 rw [bt_list, e]
theorem u8i (c d : UInt8) : ((c.toNat : Int) = (d.toNat : Int)) ↔ c = d := by
 constructor
 ·
  intro h; exact UInt8.toNat_inj.mp (by omega)
 ·
  rintro rfl; rfl
theorem head_i (t : ByteArray) (i : Nat) : (t.data.toList.drop i).head? = t.data.toList[i]? := by rw [List.head?_drop]
theorem com_i (t : ByteArray) (i : Nat) (c : UInt8) (hc : bt t (i : Int) = (c.toNat : Int)) : (bt t (i : Int) = 47 ∧ (i : Int) + 1 < (t.size : Int) ∧ bt t ((i : Int) + 1) = 47) ↔ (c = 47 ∧ (t.data.toList.drop (i + 1)).head? = some 47) := by
 rw [hc, head_i, c1]
 have e47 : ((c.toNat : Int) = 47) ↔ c = 47 := u8i c 47
 rw [e47]
 constructor
 ·
  rintro ⟨h1, h2, h3⟩
  obtain ⟨d, _, d2, d3⟩ := bt_i t (i + 1) (by omega)
  rw [d3] at h3
  have : d = 47 := (u8i d 47).1 h3
  rw [d2, this]
  exact ⟨h1, rfl⟩
 ·
  rintro ⟨h1, h2⟩
  have hl : i + 1 < t.size := by
   have := (List.getElem?_eq_some_iff.1 h2).1
   rwa [Array.length_toList] at this
  obtain ⟨d, _, d2, d3⟩ := bt_i t (i + 1) hl
  rw [h2] at d2
  obtain rfl := Option.some.inj d2
  exact ⟨h1, by omega, by rw [d3]; rfl⟩
theorem tok_nl (l : List UInt8) : tok false [] (10 :: l) = tok false [] l := by
 rw [tok, if_neg (fun x => absurd x.1 (by decide)), if_pos (by decide)]
 rfl
theorem skip_tok (t : ByteArray) : ∀ (k i j : Nat), skipL k t (i : Int) = some (j : Int) → i < t.size → tok true [] (t.data.toList.drop (i + 1)) = tok false [] (t.data.toList.drop (j + 1)) := by
 intro k
 induction k with
 | zero => intro i j h; simp [skipL] at h
 | succ k ih =>
  intro i j h hi
  simp only [skipL] at h
  by_cases h1 : (i : Int) + 1 < (t.size : Int)
  ·
   rw [if_pos h1] at h
   obtain ⟨c, d1, d2, d3⟩ := bt_i t (i + 1) (by omega)
   rw [c1] at h
   by_cases h2 : bt t ((i + 1 : Nat) : Int) = 10
   ·
    rw [if_pos h2] at h
    obtain rfl : i = j := by have := Option.some.inj h; omega
    have hc : c = 10 := (u8i c 10).1 (by rw [← d3]; exact h2)
    rw [d1, hc, tok_nl, tok, if_pos rfl]
    rfl
   ·
    rw [if_neg h2] at h
    have hc : c ≠ 10 := fun e => h2 (by rw [d3, e]; rfl)
    rw [d1, tok, if_neg hc]
    exact ih (i + 1) j h (by omega)
  ·
   rw [if_neg h1] at h
   obtain rfl : i = j := by have := Option.some.inj h; omega
   rw [List.drop_of_length_le (by rw [Array.length_toList]; have hz : t.data.size = t.size := rfl; omega)]
   rfl
def curT (t : ByteArray) (fr : Int) (i : Nat) : List UInt8 := if fr ≥ 0 then (t.data.toList.take i).drop fr.toNat else []
theorem cut_l (t : ByteArray) (n m : Nat) : (cutW t (n : Int) (m : Int)).data.toList = (t.data.toList.take m).drop n := by
 unfold cutW
 simp only [Int.toNat_natCast]
 rw [ByteArray.data_extract, Array.toList_extract]
 simp [List.extract, List.drop_take]
theorem cur_ne (t : ByteArray) (fr : Int) (i : Nat) (h : fr ≥ 0) (h1 : fr < (i : Int)) (h2 : i ≤ t.size) : curT t fr i ≠ [] := by
 unfold curT
 rw [if_pos h]
 intro e
 have := congrArg List.length e
 rw [List.length_drop, List.length_take, Array.length_toList, List.length_nil] at this
 have hz : t.data.size = t.size := rfl
 omega
theorem end_firsts (t : ByteArray) (out : List WD) (line fr : Int) (i : Nat) (h1 : fr < (i : Int)) (h2 : i ≤ t.size) : firsts (endW t out line fr (i : Int)) = firsts out ++ flT (curT t fr i) := by
 unfold endW
 by_cases h : fr ≥ 0
 ·
  rw [if_pos h, firsts_app]
  unfold flT
  rw [if_neg (cur_ne t fr i h h1 h2)]
  obtain ⟨n, rfl⟩ : ∃ n : Nat, fr = (n : Int) := ⟨fr.toNat, by omega⟩
  unfold curT
  rw [if_pos h]
  simp only [firsts, List.map_cons, List.map_nil, cut_l, Int.toNat_natCast]
 ·
  rw [if_neg h]
  unfold flT curT
  rw [if_neg h, if_pos rfl, List.append_nil]
theorem take_snoc (t : ByteArray) (i : Nat) (c : UInt8) (h : t.data.toList[i]? = some c) : t.data.toList.take (i + 1) = t.data.toList.take i ++ [c] := by
 rw [List.take_add_one, h]
 rfl
theorem cur_snoc (t : ByteArray) (fr : Int) (i : Nat) (c : UInt8) (h : t.data.toList[i]? = some c) (h0 : 0 ≤ fr) (h1 : fr < (i : Int)) (h2 : i ≤ t.size) : curT t fr (i + 1) = curT t fr i ++ [c] := by
 unfold curT
 rw [if_pos h0, if_pos h0, take_snoc t i c h, List.drop_append_of_le_length]
 rw [List.length_take, Array.length_toList]
 have hz : t.data.size = t.size := rfl
 omega
theorem cur_new (t : ByteArray) (i : Nat) (c : UInt8) (h : t.data.toList[i]? = some c) : curT t (i : Int) (i + 1) = [c] := by
 have hi := (List.getElem?_eq_some_iff.1 h).1
 unfold curT
 rw [if_pos (by omega), take_snoc t i c h, Int.toNat_natCast, List.drop_append_of_le_length (by rw [List.length_take]; omega), List.drop_of_length_le (by rw [List.length_take]; omega)]
 rfl
/-- The program's words are tok's. -/
theorem words_tok (t : ByteArray) : ∀ (k i : Nat) (out : List WD) (line fr : Int) (r : List WD), wordsL k t out line fr (i : Int) = some r → i ≤ t.size → fr < (i : Int) → firsts r = firsts out ++ tok false (curT t fr i) (t.data.toList.drop i) := by
 intro k
 induction k with
 | zero => intro i out line fr r h; simp [wordsL] at h
 | succ k ih =>
  intro i out line fr r h hi hf
  have he := end_firsts t out line fr i hf hi
  have hz : t.data.size = t.size := rfl
  have c0 : ∀ j, curT t (-1) j = [] := fun j => by unfold curT; rw [if_neg (by decide)]
  simp only [wordsL] at h
  by_cases a0 : (i : Int) < (t.size : Int)
  case neg => exact (by
   obtain rfl : i = t.size := by omega
   rw [if_neg a0] at h
   obtain rfl := Option.some.inj h
   rw [firsts_app, he, List.drop_of_length_le (by rw [Array.length_toList]; omega), List.append_assoc]
   rfl)
  rw [if_pos a0] at h
  obtain ⟨c, d1, d2, d3⟩ := bt_i t i (by omega)
  have hcom := com_i t i c d3
  rw [d1, tok]
  by_cases a1 : bt t (i : Int) = 47 ∧ (i : Int) + 1 < (t.size : Int) ∧ bt t ((i : Int) + 1) = 47
  ·
   rw [if_pos a1] at h
   rw [if_pos (hcom.1 a1)]
   obtain ⟨j, hj, h⟩ := Option.bind_eq_some_iff.mp h
   have hge := skip_ge t k i j hj
   obtain ⟨n, rfl⟩ : ∃ n : Nat, j = (n : Int) := ⟨j.toNat, by omega⟩
   have hlt : n < t.size := by
    have : ∀ (k i : Nat) (j : Int), skipL k t (i : Int) = some j → i < t.size → j < (t.size : Int) := by
     intro k
     induction k with
     | zero => intro i j h; simp [skipL] at h
     | succ k ih =>
      intro i j h hi
      simp only [skipL] at h
      split at h
      ·
       split at h
       ·
        have := Option.some.inj h; omega
       ·
        rw [c1] at h; exact ih (i + 1) j h (by omega)
      ·
       have := Option.some.inj h; omega
    have := this k i n hj (by omega)
    omega
   rw [c1] at h
   have := ih (n + 1) _ _ _ r h (by omega) (by omega)
   rw [this, he, c0, skip_tok t k i n hj (by omega), List.append_assoc]
  rw [if_neg a1] at h
  rw [if_neg (fun x => a1 (hcom.2 x))]
  have e : ∀ d : UInt8, bt t (i : Int) = (d.toNat : Int) ↔ c = d := fun d => by rw [d3]; exact u8i c d
  have e32 : bt t (i : Int) = 32 ↔ c = 32 := e 32
  have e9 : bt t (i : Int) = 9 ↔ c = 9 := e 9
  have e10 : bt t (i : Int) = 10 ↔ c = 10 := e 10
  have e123 : bt t (i : Int) = 123 ↔ c = 123 := e 123
  have e125 : bt t (i : Int) = 125 ↔ c = 125 := e 125
  have e59 : bt t (i : Int) = 59 ↔ c = 59 := e 59
  simp only [e32, e9, e10, e123, e125, e59] at h
  rw [c1] at h
  by_cases a2 : c = 32 ∨ c = 9
  ·
   rw [if_pos a2] at h
   rw [if_pos (by rcases a2 with rfl | rfl <;> rfl), ih (i + 1) _ _ _ r h (by omega) (by omega), he, c0, List.append_assoc]
  rw [if_neg a2] at h
  by_cases a3 : c = 10
  ·
   rw [if_pos a3] at h
   rw [if_pos (by rw [a3]; rfl), ih (i + 1) _ _ _ r h (by omega) (by omega), he, c0, List.append_assoc]
  rw [if_neg a3] at h
  have hb : blkT c = false := by unfold blkT; simp only [Bool.or_eq_false_iff, beq_eq_false_iff_ne]; exact ⟨⟨fun x => a2 (.inl x), fun x => a2 (.inr x)⟩, a3⟩
  rw [if_neg (by rw [hb]; simp)]
  by_cases a4 : c = 123 ∨ c = 125 ∨ c = 59
  ·
   rw [if_pos a4] at h
   rw [if_pos (by rcases a4 with rfl | rfl | rfl <;> rfl), ih (i + 1) _ _ _ r h (by omega) (by omega), firsts_app, he, c0]
   have : firsts [(cutW t (i : Int) ((i + 1 : Nat) : Int), line)] = [[c]] := by
    simp only [firsts, List.map_cons, List.map_nil, cut_l]
    rw [take_snoc t i c d2, List.drop_append_of_le_length (by rw [List.length_take, Array.length_toList]; omega), List.drop_of_length_le (by rw [List.length_take]; omega)]
    rfl
   rw [this]
   simp
  rw [if_neg a4] at h
  have hc : brcT c = false := by unfold brcT; simp only [Bool.or_eq_false_iff, beq_eq_false_iff_ne]; exact ⟨⟨fun x => a4 (.inl x), fun x => a4 (.inr (.inl x))⟩, fun x => a4 (.inr (.inr x))⟩
  rw [if_neg (by rw [hc]; simp)]
  by_cases a5 : fr < 0
  ·
   rw [if_pos a5] at h
   have e5 : curT t fr i = [] := by unfold curT; rw [if_neg (by omega)]
   rw [ih (i + 1) _ _ _ r h (by omega) (by omega), cur_new t i c d2, e5, List.nil_append]
  ·
   rw [if_neg a5] at h
   rw [ih (i + 1) _ _ _ r h (by omega) (by omega), cur_snoc t fr i c d2 (by omega) hf hi]
/-! ## Words that are words -/
def plT (c : UInt8) : Bool := !(blkT c) && !(brcT c)
def okW : List UInt8 → Prop
 | [] => True
 | c :: l => plT c = true ∧ ¬ (c = 47 ∧ l.head? = some 47) ∧ okW l
def goodW (w : List UInt8) : Prop := (w ≠ [] ∧ okW w) ∨ ∃ c, w = [c] ∧ brcT c = true
def takeT : List UInt8 → List UInt8
 | [] => []
 | c :: l => if c = 47 ∧ l.head? = some 47 then [] else if plT c = true then c :: takeT l else []
def dropT : List UInt8 → List UInt8
 | [] => []
 | c :: l => if c = 47 ∧ l.head? = some 47 then c :: l else if plT c = true then dropT l else c :: l
theorem takeT_ok : ∀ l, okW (takeT l)
 | [] => trivial
 | c :: l => by
  rw [takeT]
  split
  ·
   trivial
  ·
   rename_i h
   split
   ·
    rename_i hp
    refine ⟨hp, fun ⟨a, b⟩ => h ⟨a, ?_⟩, takeT_ok l⟩
    cases l with
    | nil => simp [takeT] at b
    | cons d l =>
     rw [takeT] at b
     split at b
     ·
      simp at b
     ·
      split at b
      ·
       simpa using b
      ·
       simp at b
   ·
    trivial
theorem dropT_len : ∀ l, (dropT l).length ≤ l.length
 | [] => Nat.le_refl _
 | c :: l => by
  rw [dropT]
  have := dropT_len l
  split
  ·
   exact Nat.le_refl _
  ·
   split
   ·
    simp only [List.length_cons]; omega
   ·
    exact Nat.le_refl _
theorem fl_nil (cur : List UInt8) (x : List (List UInt8)) : flT cur ++ (flT [] ++ x) = flT cur ++ x := rfl
theorem tok_take : ∀ (l cur : List UInt8), tok false cur l = flT (cur ++ takeT l) ++ tok false [] (dropT l)
 | [], cur => by simp [tok, takeT, dropT, flT]
 | c :: l, cur => by
  rw [takeT, dropT]
  by_cases h1 : c = 47 ∧ l.head? = some 47
  ·
   rw [if_pos h1, if_pos h1, tok, tok, if_pos h1, if_pos h1, List.append_nil, fl_nil]
  ·
   rw [if_neg h1, if_neg h1]
   by_cases h2 : plT c = true
   ·
    have hb : blkT c = false ∧ brcT c = false := by simpa [plT] using h2
    rw [if_pos h2, if_pos h2, tok, if_neg h1, if_neg (by rw [hb.1]; simp), if_neg (by rw [hb.2]; simp), tok_take l (cur ++ [c]), List.append_assoc]
    rfl
   ·
    rw [if_neg h2, if_neg h2, List.append_nil, tok, tok, if_neg h1, if_neg h1]
    split
    ·
     rw [fl_nil]
    ·
     split
     ·
      rw [fl_nil]
     ·
      rename_i hb hc
      exact absurd (by simp only [plT, Bool.and_eq_true, Bool.not_eq_true']; exact ⟨by simpa using hb, by simpa using hc⟩) h2
theorem tok_rem : ∀ l : List UInt8, ∃ m : List UInt8, m.length ≤ l.length ∧ tok true [] l = tok false [] m
 | [] => ⟨[], Nat.le_refl _, rfl⟩
 | c :: l => by
  by_cases h : c = 10
  ·
   exact ⟨l, by simp, by rw [tok, if_pos h]; rfl⟩
  ·
   obtain ⟨m, h1, h2⟩ := tok_rem l
   exact ⟨m, by simp only [List.length_cons]; omega, by rw [tok, if_neg h, h2]⟩
/-- All words are words, but the last, which is empty. -/
theorem tok_good : ∀ (n : Nat) (l : List UInt8), l.length ≤ n → ∃ ws, tok false [] l = ws ++ [[]] ∧ ∀ w ∈ ws, goodW w := by
 intro n
 induction n with
 | zero =>
  intro l h
  obtain rfl := List.eq_nil_of_length_eq_zero (by omega : l.length = 0)
  exact ⟨[], rfl, fun w hw => by cases hw⟩
 | succ n ih =>
  intro l h
  cases l with
  | nil => exact ⟨[], rfl, fun w hw => by cases hw⟩
  | cons c l =>
   simp only [List.length_cons] at h
   rw [tok]
   by_cases h1 : c = 47 ∧ l.head? = some 47
   ·
    obtain ⟨m, m1, m2⟩ := tok_rem l
    rw [if_pos h1, m2]
    exact ih m (by omega)
   ·
    rw [if_neg h1]
    by_cases h2 : blkT c = true
    ·
     rw [if_pos h2]
     exact ih l (by omega)
    ·
     rw [if_neg h2]
     by_cases h3 : brcT c = true
     ·
      rw [if_pos h3]
      obtain ⟨ws, e, hw⟩ := ih l (by omega)
      refine ⟨[c] :: ws, by rw [e]; rfl, fun w hw' => ?_⟩
      rcases List.mem_cons.1 hw' with rfl | hm
      ·
       exact .inr ⟨c, rfl, h3⟩
      ·
       exact hw w hm
     ·
      rw [if_neg h3, tok_take]
      obtain ⟨ws, e, hw⟩ := ih (dropT l) (by have := dropT_len l; omega)
      have hne : ([] ++ [c]) ++ takeT l ≠ [] := by simp
      refine ⟨([] ++ [c] ++ takeT l) :: ws, by rw [e]; unfold flT; rw [if_neg hne]; rfl, fun w hw' => ?_⟩
      rcases List.mem_cons.1 hw' with rfl | hm
      ·
       refine .inl ⟨hne, ?_⟩
       have hp : plT c = true := by simp only [plT, Bool.and_eq_true, Bool.not_eq_true']; exact ⟨by simpa using h2, by simpa using h3⟩
       have := takeT_ok (c :: l)
       rw [takeT, if_neg h1, if_pos hp] at this
       exact this
      ·
       exact hw w hm
theorem tok_word : ∀ (w cur : List UInt8) (b : UInt8) (m : List UInt8), okW w → blkT b = true → tok false cur (w ++ b :: m) = flT (cur ++ w) ++ tok false [] m
 | [], cur, b, m, _, hb => by
  rw [List.nil_append, tok, List.append_nil]
  have : ¬ (b = 47 ∧ m.head? = some 47) := fun x => by rw [x.1] at hb; cases hb
  rw [if_neg this, if_pos hb]
 | c :: w, cur, b, m, h, hb => by
  obtain ⟨h1, h2, h3⟩ := h
  have hp : blkT c = false ∧ brcT c = false := by simpa [plT] using h1
  have hh : ¬ (c = 47 ∧ (w ++ b :: m).head? = some 47) := fun x => h2 ⟨x.1, by
   cases w with
   | nil =>
    have e : b = 47 := by simpa using x.2
    rw [e] at hb; cases hb
   | cons d w => simpa using x.2⟩
  rw [List.cons_append, tok, if_neg hh, if_neg (by rw [hp.1]; simp), if_neg (by rw [hp.2]; simp), tok_word w (cur ++ [c]) b m h3 hb, List.append_assoc]
  rfl
theorem tok_goodw {w : List UInt8} (h : goodW w) (b : UInt8) (m : List UInt8) (hb : blkT b = true) : tok false [] (w ++ b :: m) = w :: tok false [] m := by
 rcases h with ⟨h1, h2⟩ | ⟨c, rfl, hc⟩
 ·
  rw [tok_word w [] b m h2 hb, List.nil_append]
  unfold flT
  rw [if_neg h1]
  rfl
 ·
  have hn : ¬ (c = 47 ∧ (b :: m).head? = some 47) := fun x => by rw [x.1] at hc; cases hc
  have hk : blkT c = false := by
   unfold brcT at hc
   simp only [Bool.or_eq_true, beq_iff_eq] at hc
   rcases hc with (rfl | rfl) | rfl <;> rfl
  rw [List.singleton_append, tok, if_neg hn, if_neg (by rw [hk]; simp), if_pos hc]
  have : tok false [] (b :: m) = tok false [] m := by
   have := tok_word [] [] b m trivial hb
   simpa [flT] using this
  rw [this]
  rfl

/-! ## A config is the same as itself -/
theorem same_self (l : List S38) (hl : l.length ≤ 1000) (hh : ∀ x ∈ l, x.f6.length ≤ 1000) (k : Nat) (hk : 3000 < k) : pantryref09_Same.f k l l = some true := by
 have loop : ∀ (d i k : Nat), i + d = l.length → d + 1500 < k → pantryref09_Same.l0 k (i : Int) l l = some true := by
  intro d
  induction d with
  | zero =>
   intro i k hi hk
   obtain ⟨k, rfl⟩ : ∃ j, k = j + 1 := ⟨k - 1, by omega⟩
   simp only [pantryref09_Same.l0]
   rw [if_neg (by omega)]
  | succ d ih =>
   intro i k hi hk
   obtain ⟨k, rfl⟩ : ∃ j, k = j + 1 := ⟨k - 1, by omega⟩
   have hlt : i < l.length := by omega
   simp only [pantryref09_Same.l0]
   rw [if_pos (by omega), if_pos (by omega), if_pos (by omega), rdR l i hlt, alike_self _ _ _ _ _ _ _ (hh l[i] (List.getElem_mem hlt)) k (by have := hh l[i] (List.getElem_mem hlt); omega)]
   simp only [Option.bind_some]
   rw [if_pos trivial, w64n (x := (i : Int) + 1) (by omega) (by omega), c1]
   exact ih (i + 1) k (by omega) (by omega)
 unfold pantryref09_Same.f
 rw [if_pos rfl]
 exact loop l.length 0 k (by omega) (by omega)

/-! ## The document's words -/
def bl (l : List ByteArray) : List (List UInt8) := l.map fun x => x.data.toList
theorem bl_app (a b : List ByteArray) : bl (a ++ b) = bl a ++ bl b := List.map_append
theorem rcom_eval (t : ByteArray) (i : Nat) (hs : t.size ≤ 1000000) (hi : i < t.size) : ∃ b, pantryref09_comment.f t (i : Int) = some b ∧ (b = true ↔ (bt t (i : Int) = 47 ∧ (i : Int) + 1 < (t.size : Int) ∧ bt t ((i : Int) + 1) = 47)) := by
 unfold pantryref09_comment.f
 rw [w64n (x := (i : Int) + 1) (by omega) (by omega)]
 by_cases h1 : (i : Int) + 1 < (t.size : Int)
 ·
  rw [if_pos h1, if_pos (by omega), if_pos (by omega)]
  by_cases h2 : bt t (i : Int) = 47
  ·
   rw [if_pos h2, if_pos (by omega)]
   exact ⟨_, rfl, by rw [beq_iff_eq]; exact ⟨fun x => ⟨h2, h1, x⟩, fun x => x.2.2⟩⟩
  ·
   rw [if_neg h2]
   exact ⟨false, rfl, ⟨fun x => absurd x (by simp), fun x => absurd x.1 h2⟩⟩
 ·
  rw [if_neg h1]
  exact ⟨false, rfl, ⟨fun x => absurd x (by simp), fun x => absurd x.2.1 h1⟩⟩
theorem rplain_eval (c : UInt8) : pantryref09_plain.f (c.toNat : Int) = some (plT c) := by
 unfold pantryref09_plain.f
 have e32 : (c.toNat : Int) = 32 ↔ c = 32 := u8i c 32
 have e9 : (c.toNat : Int) = 9 ↔ c = 9 := u8i c 9
 have e10 : (c.toNat : Int) = 10 ↔ c = 10 := u8i c 10
 have e123 : (c.toNat : Int) = 123 ↔ c = 123 := u8i c 123
 have e125 : (c.toNat : Int) = 125 ↔ c = 125 := u8i c 125
 have e59 : (c.toNat : Int) = 59 ↔ c = 59 := u8i c 59
 by_cases h1 : c = 32
 ·
  subst h1; rfl
 rw [if_neg (fun x => h1 (e32.1 x))]
 by_cases h2 : c = 9
 ·
  subst h2; rfl
 rw [if_neg (fun x => h2 (e9.1 x))]
 by_cases h3 : c = 10
 ·
  subst h3; rfl
 rw [if_neg (fun x => h3 (e10.1 x))]
 by_cases h4 : c = 123
 ·
  subst h4; rfl
 rw [if_neg (fun x => h4 (e123.1 x))]
 by_cases h5 : c = 125
 ·
  subst h5; rfl
 rw [if_neg (fun x => h5 (e125.1 x))]
 by_cases h6 : c = 59
 ·
  subst h6; rfl
 have hb : ((c.toNat : Int) != 59) = true := bne_iff_ne.2 (fun x => h6 (e59.1 x))
 rw [hb]
 unfold plT blkT brcT
 rw [beq_eq_false_iff_ne.2 h1, beq_eq_false_iff_ne.2 h2, beq_eq_false_iff_ne.2 h3, beq_eq_false_iff_ne.2 h4, beq_eq_false_iff_ne.2 h5, beq_eq_false_iff_ne.2 h6]
 rfl
theorem rskip (t : ByteArray) (hs : t.size ≤ 1000000) (x4 : Int) (W : List ByteArray) (L : List Int) : ∀ (d i k : Nat), i + d = t.size → d < k → ∃ j, i ≤ j ∧ j ≤ t.size ∧ (bt t (i : Int) ≠ 10 → i < t.size → i < j) ∧ pantryref09_Words.l1 k t x4 (i : Int) W L 0 0 0 = pantryref09_Words.l0 (k - (j - i) - 1) t x4 (j : Int) W L 0 0 0 ∧ tok true [] (t.data.toList.drop i) = tok false [] (t.data.toList.drop j) := by
 intro d
 induction d with
 | zero =>
  intro i k hi hk
  obtain ⟨k, rfl⟩ : ∃ j, k = j + 1 := ⟨k - 1, by omega⟩
  refine ⟨i, Nat.le_refl _, by omega, fun _ h => by omega, ?_, ?_⟩
  ·
   rw [pantryref09_Words.l1, if_neg (by omega), show k + 1 - (i - i) - 1 = k by omega]
  ·
   rw [List.drop_of_length_le (by rw [Array.length_toList]; have hz : t.data.size = t.size := rfl; omega)]
   rfl
 | succ d ih =>
  intro i k hi hk
  obtain ⟨k, rfl⟩ : ∃ j, k = j + 1 := ⟨k - 1, by omega⟩
  obtain ⟨c, d1, d2, d3⟩ := bt_i t i (by omega)
  by_cases h : bt t (i : Int) = 10
  ·
   have hc : c = 10 := (u8i c 10).1 (by rw [← d3]; exact h)
   refine ⟨i, Nat.le_refl _, by omega, fun h2 => absurd h h2, ?_, ?_⟩
   ·
    rw [pantryref09_Words.l1, if_pos (by omega), if_pos (by omega), if_pos h, show k + 1 - (i - i) - 1 = k by omega]
   ·
    rw [d1, hc, tok_nl, tok, if_pos rfl]
    rfl
  ·
   have hc : c ≠ 10 := fun e => h (by rw [d3, e]; rfl)
   obtain ⟨j, j1, j2, _, j4, j5⟩ := ih (i + 1) k (by omega) (by omega)
   refine ⟨j, by omega, j2, fun _ _ => by omega, ?_, ?_⟩
   ·
    rw [pantryref09_Words.l1, if_pos (by omega), if_pos (by omega), if_neg h, w64n (by omega) (by omega), c1, j4, show k + 1 - (j - i) - 1 = k - (j - (i + 1)) - 1 by omega]
   ·
    rw [d1, tok, if_neg hc]
    exact j5
theorem ext_cur (t : ByteArray) (a b : Nat) : (t.extract ((a : Int)).toNat ((b : Int)).toNat).data.toList = (t.data.toList.take b).drop a := cut_l t a b
set_option maxHeartbeats 1000000 in
theorem rword (t : ByteArray) (hs : t.size ≤ 1000000) (x4 : Int) (fr : Nat) (W : List ByteArray) (L : List Int) (hW : W.length ≤ 2000000) (hL : L.length ≤ 2000000) : ∀ (d i k : Nat), i + d = t.size → fr ≤ i → d < k → ∃ j, i ≤ j ∧ j ≤ t.size ∧ ((i < t.size ∧ ∃ c, t.data.toList[i]? = some c ∧ plT c = true ∧ ¬ (c = 47 ∧ (t.data.toList.drop (i + 1)).head? = some 47)) → i < j) ∧
  pantryref09_Words.l2 k t x4 (i : Int) (fr : Int) W L 0 0 0 = pantryref09_Words.l0 (k - (j - i) - 1) t x4 (j : Int) (W ++ [t.extract ((fr : Int)).toNat ((j : Int)).toNat]) (L ++ [x4]) 0 0 0 ∧
  ∀ cur, cur = (t.data.toList.take i).drop fr → tok false cur (t.data.toList.drop i) = flT ((t.data.toList.take j).drop fr) ++ tok false [] (t.data.toList.drop j) := by
 have hz : t.data.size = t.size := rfl
 intro d
 induction d with
 | zero =>
  intro i k hi hf hk
  obtain ⟨k, rfl⟩ : ∃ j, k = j + 1 := ⟨k - 1, by omega⟩
  refine ⟨i, Nat.le_refl _, by omega, fun h => by omega, ?_, ?_⟩
  ·
   rw [pantryref09_Words.l2, if_neg (by omega), if_pos (by omega), if_pos (by omega), if_pos (by omega), if_pos (by omega), if_pos (by omega), show k + 1 - (i - i) - 1 = k by omega]
  ·
   rintro cur rfl
   rw [List.drop_of_length_le (l := t.data.toList) (i := i) (by rw [Array.length_toList]; omega)]
   rfl
 | succ d ih =>
  intro i k hi hf hk
  obtain ⟨k, rfl⟩ : ∃ j, k = j + 1 := ⟨k - 1, by omega⟩
  obtain ⟨c, d1, d2, d3⟩ := bt_i t i (by omega)
  obtain ⟨b, b1, b2⟩ := rcom_eval t i hs (by omega)
  rw [com_i t i c d3] at b2
  have stop : plT c = false ∨ b = true → ∃ j, i ≤ j ∧ j ≤ t.size ∧ ((i < t.size ∧ ∃ c, t.data.toList[i]? = some c ∧ plT c = true ∧ ¬ (c = 47 ∧ (t.data.toList.drop (i + 1)).head? = some 47)) → i < j) ∧
    pantryref09_Words.l2 (k + 1) t x4 (i : Int) (fr : Int) W L 0 0 0 = pantryref09_Words.l0 (k + 1 - (j - i) - 1) t x4 (j : Int) (W ++ [t.extract ((fr : Int)).toNat ((j : Int)).toNat]) (L ++ [x4]) 0 0 0 ∧
    ∀ cur, cur = (t.data.toList.take i).drop fr → tok false cur (t.data.toList.drop i) = flT ((t.data.toList.take j).drop fr) ++ tok false [] (t.data.toList.drop j) := by
   intro hst
   refine ⟨i, Nat.le_refl _, by omega, ?_, ?_, ?_⟩
   ·
    rintro ⟨_, c', e1, e2, e3⟩
    rw [d2] at e1
    obtain rfl := Option.some.inj e1
    rcases hst with h | h
    ·
     rw [h] at e2; cases e2
    ·
     exact absurd (b2.1 h) e3
   ·
    rw [pantryref09_Words.l2, if_pos (by omega), if_pos (by omega), d3, rplain_eval, Option.bind_some, show k + 1 - (i - i) - 1 = k by omega]
    cases hp : plT c with
    | false => rw [if_neg (by simp), if_pos (by omega), if_pos (by omega), if_pos (by omega), if_pos (by omega), if_pos (by omega)]
    | true =>
     have hb : b = true := hst.elim (fun h => by rw [hp] at h; cases h) id
     rw [if_pos rfl, b1, Option.bind_some, if_pos hb, if_pos (by omega), if_pos (by omega), if_pos (by omega), if_pos (by omega), if_pos (by omega)]
   ·
    rintro cur rfl
    have ht : takeT (t.data.toList.drop i) = [] ∧ dropT (t.data.toList.drop i) = t.data.toList.drop i := by
     rw [d1, takeT, dropT]
     rcases hst with h | h
     ·
      by_cases hq : c = 47 ∧ (t.data.toList.drop (i + 1)).head? = some 47
      ·
       rw [if_pos hq, if_pos hq]; exact ⟨rfl, rfl⟩
      ·
       rw [if_neg hq, if_neg hq, if_neg (by rw [h]; simp), if_neg (by rw [h]; simp)]; exact ⟨rfl, rfl⟩
     ·
      rw [if_pos (b2.1 h), if_pos (b2.1 h)]; exact ⟨rfl, rfl⟩
    have := tok_take (t.data.toList.drop i) ((t.data.toList.take i).drop fr)
    rw [ht.1, ht.2, List.append_nil] at this
    exact this
  cases hp : plT c with
  | false => exact stop (.inl hp)
  | true =>
   cases hb : b with
   | true => exact stop (.inr hb)
   | false =>
    have hn : ¬ (c = 47 ∧ (t.data.toList.drop (i + 1)).head? = some 47) := fun x => by rw [b2.2 x] at hb; cases hb
    have hbb : blkT c = false ∧ brcT c = false := by simpa [plT] using hp
    obtain ⟨j, j1, j2, _, j4, j5⟩ := ih (i + 1) k (by omega) (by omega) (by omega)
    refine ⟨j, by omega, j2, fun _ => by omega, ?_, ?_⟩
    ·
     rw [pantryref09_Words.l2, if_pos (by omega), if_pos (by omega), d3, rplain_eval, Option.bind_some, if_pos hp, b1, Option.bind_some, hb, if_neg (by simp), w64n (by omega) (by omega), c1, j4, show k + 1 - (j - i) - 1 = k - (j - (i + 1)) - 1 by omega]
    ·
     rintro cur rfl
     rw [d1, tok, if_neg hn, if_neg (by rw [hbb.1]; simp), if_neg (by rw [hbb.2]; simp)]
     refine j5 _ ?_
     rw [take_snoc t i c d2, List.drop_append_of_le_length (by rw [List.length_take, Array.length_toList]; omega)]
set_option maxHeartbeats 400000 in
theorem rwords (t : ByteArray) (hs : t.size ≤ 1000000) : ∀ (n i k : Nat) (W : List ByteArray) (L : List Int) (x4 : Int), t.size - i ≤ n → i ≤ t.size → 4 * (t.size - i) + 4 ≤ k → W.length ≤ i → L.length ≤ i →
  ∃ r, pantryref09_Words.l0 k t x4 (i : Int) W L 0 0 0 = some r ∧ bl r = bl W ++ tok false [] (t.data.toList.drop i) := by
 have hz : t.data.size = t.size := rfl
 intro n
 induction n with
 | zero =>
  intro i k W L x4 hn hi hk hW hL
  obtain ⟨k, rfl⟩ : ∃ j, k = j + 1 := ⟨k - 1, by omega⟩
  refine ⟨W ++ [(⟨#[]⟩ : ByteArray)], ?_, ?_⟩
  ·
   rw [pantryref09_Words.l0, if_neg (by omega), if_pos (by omega), if_pos (by omega)]
  ·
   rw [bl_app, List.drop_of_length_le (by rw [Array.length_toList]; omega)]
   rfl
 | succ n ih =>
  intro i k W L x4 hn hi hk hW hL
  by_cases hlt : i < t.size
  case neg => exact ih i k W L x4 (by omega) hi hk hW hL
  obtain ⟨k, rfl⟩ : ∃ j, k = j + 2 := ⟨k - 2, by omega⟩
  obtain ⟨c, d1, d2, d3⟩ := bt_i t i hlt
  obtain ⟨b, b1, b2⟩ := rcom_eval t i hs hlt
  have b2' := b2
  rw [com_i t i c d3] at b2
  rw [pantryref09_Words.l0, if_pos (by omega), b1, Option.bind_some]
  cases hb : b with
  | true =>
   have hc := b2.1 hb
   obtain ⟨j, j1, j2, j3, j4, j5⟩ := rskip t hs x4 W L (t.size - i) i (k + 1) (by omega) (by omega)
   have hij := j3 (by rw [(b2'.1 hb).1]; decide) hlt
   rw [if_pos rfl, j4]
   obtain ⟨r, r1, r2⟩ := ih j (k + 1 - (j - i) - 1) W L x4 (by omega) j2 (by omega) (by omega) (by omega)
   refine ⟨r, r1, ?_⟩
   rw [r2, d1, tok, if_pos hc, ← j5, d1, tok, if_neg (by rw [hc.1]; decide)]
   rfl
  | false =>
   have hnc : ¬ (c = 47 ∧ (t.data.toList.drop (i + 1)).head? = some 47) := fun x => by rw [b2.2 x] at hb; cases hb
   have j2y : ∀ x4' : Int, ∃ r, pantryref09_Words.j2 (k + 1) t x4' (i : Int) W L 0 0 0 = some r ∧ bl r = bl W ++ tok false [] (t.data.toList.drop i) := by
    intro x4'
    rw [pantryref09_Words.j2, if_pos (by omega), if_pos (by omega), d3, rplain_eval, Option.bind_some]
    cases hp : plT c with
    | true =>
     obtain ⟨j, j1, j2, j3, j4, j5⟩ := rword t hs x4' i W L (by omega) (by omega) (t.size - i) i k (by omega) (Nat.le_refl _) (by omega)
     have hij := j3 ⟨hlt, c, d2, hp, hnc⟩
     rw [if_pos rfl, j4]
     obtain ⟨r, r1, r2⟩ := ih j (k - (j - i) - 1) (W ++ [t.extract ((i : Int)).toNat ((j : Int)).toNat]) (L ++ [x4']) x4' (by omega) j2 (by omega) (by rw [List.length_append, List.length_singleton]; omega) (by rw [List.length_append, List.length_singleton]; omega)
     refine ⟨r, r1, ?_⟩
     have h5 := j5 [] (by rw [List.drop_of_length_le (by rw [List.length_take]; omega)])
     have hne : (t.data.toList.take j).drop i ≠ [] := by
      intro e
      have := congrArg List.length e
      rw [List.length_drop, List.length_take, Array.length_toList, List.length_nil] at this
      omega
     rw [r2, h5, bl_app, List.append_assoc]
     unfold flT
     rw [if_neg hne]
     simp only [bl, List.map_cons, List.map_nil, ext_cur]
    | false =>
     rw [if_neg (by simp)]
     obtain ⟨rb, rb1, rb2⟩ := ih (i + 1) k (W ++ [t.extract ((i : Int)).toNat (((i + 1 : Nat) : Int)).toNat]) (L ++ [x4']) x4' (by omega) (by omega) (by omega) (by rw [List.length_append, List.length_singleton]; omega) (by rw [List.length_append, List.length_singleton]; omega)
     have brace : brcT c = true → bl rb = bl W ++ tok false [] (t.data.toList.drop i) := fun hq => by
      have hk : blkT c = false := by
       unfold brcT at hq
       simp only [Bool.or_eq_true, beq_iff_eq] at hq
       rcases hq with (rfl | rfl) | rfl <;> rfl
      have e : (t.data.toList.take (i + 1)).drop i = [c] := by
       rw [take_snoc t i c d2, List.drop_append_of_le_length (by rw [List.length_take, Array.length_toList]; omega), List.drop_of_length_le (by rw [List.length_take]; omega)]
       rfl
      rw [rb2, d1, tok, if_neg hnc, if_neg (by rw [hk]; simp), if_pos hq, bl_app, List.append_assoc]
      simp only [bl, List.map_cons, List.map_nil, ext_cur, e]
      rfl
     have p1 : (i : Int) ≤ ((i + 1 : Nat) : Int) := by omega
     have p2 : ((i + 1 : Nat) : Int) ≤ (t.size : Int) := by omega
     have p3 : W.length < 8796093022208 := by omega
     have p4 : L.length < 17592186044416 := by omega
     obtain ⟨r, r1, r2⟩ := ih (i + 1) k W L x4' (by omega) (by omega) (by omega) (by omega) (by omega)
     have hw : wrap64 ((i : Int) + 1) = ((i + 1 : Nat) : Int) := by rw [w64n (by omega) (by omega)]; omega
     rw [hw]
     have e123 : (c.toNat : Int) = 123 ↔ c = 123 := u8i c 123
     have e125 : (c.toNat : Int) = 125 ↔ c = 125 := u8i c 125
     have e59 : (c.toNat : Int) = 59 ↔ c = 59 := u8i c 59
     by_cases q1 : c = 123
     ·
      rw [if_pos (e123.2 q1), if_pos p1, if_pos p2, if_pos p3, if_pos p4]
      exact ⟨rb, rb1, brace (by rw [q1]; rfl)⟩
     rw [if_neg (fun x => q1 (e123.1 x))]
     by_cases q2 : c = 125
     ·
      rw [if_pos (e125.2 q2), if_pos p1, if_pos p2, if_pos p3, if_pos p4]
      exact ⟨rb, rb1, brace (by rw [q2]; rfl)⟩
     rw [if_neg (fun x => q2 (e125.1 x))]
     by_cases q3 : c = 59
     ·
      rw [if_pos (e59.2 q3), if_pos p1, if_pos p2, if_pos p3, if_pos p4]
      exact ⟨rb, rb1, brace (by rw [q3]; rfl)⟩
     rw [if_neg (fun x => q3 (e59.1 x))]
     refine ⟨r, r1, ?_⟩
     have hbr : brcT c = false := by unfold brcT; rw [beq_eq_false_iff_ne.2 q1, beq_eq_false_iff_ne.2 q2, beq_eq_false_iff_ne.2 q3]; rfl
     have hbl : blkT c = true := by
      unfold plT at hp
      rw [hbr] at hp
      simpa using hp
     rw [r2, d1, tok, if_neg hnc, if_pos hbl]
     rfl
   rw [if_neg (by simp), if_pos (by omega)]
   by_cases h10 : bt t (i : Int) = 10
   ·
    rw [if_pos h10]; exact j2y _
   ·
    rw [if_neg h10]; exact j2y _
theorem rwords_eval (t : ByteArray) (hs : t.size ≤ 1000000) (k : Nat) (hk : 4 * t.size + 4 ≤ k) : ∃ r, pantryref09_Words.f k t = some r ∧ bl r = tok false [] t.data.toList := by
 obtain ⟨r, r1, r2⟩ := rwords t hs t.size 0 k [] [] 1 (by omega) (by omega) (by omega) (by simp) (by simp)
 exact ⟨r, r1, by simpa [bl] using r2⟩

/-! ## ConfBlanks -/
def sep1 : List UInt8 := [10, 32, 9]
def sep2 : List UInt8 := [32, 47, 47, 32, 120, 32, 59, 32, 123, 32, 115, 105, 116, 101, 10]
def sep0 : List UInt8 := [32]
theorem sep_tok (s : List UInt8) (h : s = sep0 ∨ s = sep1 ∨ s = sep2) : ∃ b m0, s = b :: m0 ∧ blkT b = true ∧ ∀ m, tok false [] (m0 ++ m) = tok false [] m := by
 have one : ∀ (b : UInt8) (m : List UInt8), blkT b = true → tok false [] (b :: m) = tok false [] m := fun b m hb => by
  have := tok_word [] [] b m trivial hb
  simpa [flT] using this
 rcases h with rfl | rfl | rfl
 ·
  exact ⟨32, [], rfl, rfl, fun m => rfl⟩
 ·
  refine ⟨10, [32, 9], rfl, rfl, fun m => ?_⟩
  rw [List.cons_append, List.cons_append, List.nil_append, one 32 _ rfl, one 9 _ rfl]
 ·
  refine ⟨32, [47, 47, 32, 120, 32, 59, 32, 123, 32, 115, 105, 116, 101, 10], rfl, rfl, fun m => ?_⟩
  simp [tok, flT]
theorem blanks_step (g : List (List UInt8)) (hg : ∀ w ∈ g, goodW w) (ws : List ByteArray) (hws : bl ws = g ++ [[]]) (i : Nat) (_hi : i ≤ g.length) (s : List UInt8) (hs : ∀ m, tok false [] (s ++ m) = g.take i ++ tok false [] m) (sep : List UInt8) (hsep : sep = sep0 ∨ sep = sep1 ∨ sep = sep2) (w : ByteArray) (hw : (bl ws)[i]? = some w.data.toList) :
  (i < g.length → ∀ m, tok false [] ((s ++ w.data.toList ++ sep) ++ m) = g.take (i + 1) ++ tok false [] m) ∧ (i = g.length → tok false [] (s ++ w.data.toList ++ sep) = g ++ [[]]) := by
 obtain ⟨b, m0, rfl, hb, hm⟩ := sep_tok sep hsep
 rw [hws] at hw
 constructor
 ·
  intro hlt m
  rw [List.getElem?_append_left hlt] at hw
  have e : g[i] = w.data.toList := by rw [List.getElem?_eq_getElem hlt] at hw; exact Option.some.inj hw
  have hgo := hg _ (List.getElem_mem hlt)
  rw [e] at hgo
  rw [List.append_assoc, List.append_assoc, hs, List.cons_append, tok_goodw hgo b _ hb, hm, List.take_succ_eq_append_getElem hlt, e, List.append_assoc]
  rfl
 ·
  intro he
  rw [he, List.getElem?_append_right (Nat.le_refl _), Nat.sub_self] at hw
  have e : w.data.toList = [] := (Option.some.inj hw).symm
  have h1 := hs (b :: m0)
  have h2 : tok false [] (b :: m0) = [[]] := by
   have h3 := tok_word [] [] b m0 trivial hb
   have h4 := hm []
   rw [List.append_nil] at h4
   rw [List.nil_append] at h3
   rw [h3, h4]
   rfl
  rw [e, List.append_nil, h1, h2, he, List.take_length]
theorem blanks_l0 (t : ByteArray) (more : List Int) (g : List (List UInt8)) (hg : ∀ w ∈ g, goodW w) (ws : List ByteArray) (hws : bl ws = g ++ [[]]) (hsz : ∀ x ∈ ws, x.size ≤ 5000) (hn : ws.length ≤ 5000) : ∀ (d i : Nat) (s : ByteArray), i + d = ws.length → s.size ≤ i * 6000 → (i ≤ g.length → ∀ m, tok false [] (s.data.toList ++ m) = g.take i ++ tok false [] m) → (i = ws.length → tok false [] s.data.toList = g ++ [[]]) →
  ∃ s' : ByteArray, (∀ k, pantrylaw09_ConfBlanks.l0 (k + 2 * d) t more s ws (ws.length : Int) (i : Int) = pantrylaw09_ConfBlanks.l0 k t more s' ws (ws.length : Int) (ws.length : Int)) ∧ tok false [] s'.data.toList = g ++ [[]] ∧ s'.size ≤ ws.length * 6000 := by
 have hl : ws.length = g.length + 1 := by
  have := congrArg List.length hws
  simpa [bl] using this
 intro d
 induction d with
 | zero =>
  intro i s hi hss _ hf
  obtain rfl : i = ws.length := by omega
  exact ⟨s, fun _ => rfl, hf rfl, hss⟩
 | succ d ih =>
  intro i s hi hss hin _
  have hlt : i < ws.length := by omega
  have hwz := hsz _ (List.getElem_mem hlt)
  have hw : (bl ws)[i]? = some ws[i].data.toList := by
   unfold bl
   rw [List.getElem?_map, List.getElem?_eq_getElem hlt]
   rfl
  have hz1 : (s ++ ws[i]).size = s.size + ws[i].size := ByteArray.size_append ..
  have step : ∀ (sp : ByteArray), sp.size ≤ 15 → (sp.data.toList = sep0 ∨ sp.data.toList = sep1 ∨ sp.data.toList = sep2) →
    ∃ s' : ByteArray, (∀ k, pantrylaw09_ConfBlanks.l0 (k + 2 * d) t more ((s ++ ws[i]) ++ sp) ws (ws.length : Int) ((i + 1 : Nat) : Int) = pantrylaw09_ConfBlanks.l0 k t more s' ws (ws.length : Int) (ws.length : Int)) ∧ tok false [] s'.data.toList = g ++ [[]] ∧ s'.size ≤ ws.length * 6000 := fun sp h1 h2 => by
   have hb := blanks_step g hg ws hws i (by omega) s.data.toList (hin (by omega)) sp.data.toList h2 ws[i] hw
   have e : ((s ++ ws[i]) ++ sp).data.toList = s.data.toList ++ ws[i].data.toList ++ sp.data.toList := by simp
   have hz2 : ((s ++ ws[i]) ++ sp).size = s.size + ws[i].size + sp.size := by rw [ByteArray.size_append, hz1]
   refine ih (i + 1) _ (by omega) (by omega) (fun h m => ?_) (fun h => ?_)
   ·
    rw [e]; exact hb.1 (by omega) m
   ·
    rw [e]; exact hb.2 (by omega)
  have p3 : (s ++ ws[i]).size + 3 ≤ 9223372036854775807 := by omega
  have p15 : (s ++ ws[i]).size + 15 ≤ 9223372036854775807 := by omega
  have p1 : (s ++ ws[i]).size + 1 ≤ 9223372036854775807 := by omega
  have p0 : s.size + ws[i].size ≤ 9223372036854775807 := by omega
  have j2y : ∀ x9 : Int, ∃ s' : ByteArray, (∀ k, pantrylaw09_ConfBlanks.j2 (k + 2 * d + 1) t more (s ++ ws[i]) x9 ws (ws.length : Int) (i : Int) = pantrylaw09_ConfBlanks.l0 k t more s' ws (ws.length : Int) (ws.length : Int)) ∧ tok false [] s'.data.toList = g ++ [[]] ∧ s'.size ≤ ws.length * 6000 := fun x9 => by
   have hwr : wrap64 ((i : Int) + 1) = ((i + 1 : Nat) : Int) := by rw [w64n (by omega) (by omega)]; omega
   by_cases q1 : Int.tmod x9 3 = 1
   ·
    obtain ⟨s', h1, h2⟩ := step (⟨#[10, 32, 9]⟩ : ByteArray) (by decide) (.inr (.inl rfl))
    exact ⟨s', fun k => by rw [pantrylaw09_ConfBlanks.j2, hwr, if_pos q1, if_pos p3]; exact h1 k, h2⟩
   by_cases q2 : Int.tmod x9 3 = 2
   ·
    obtain ⟨s', h1, h2⟩ := step (⟨#[32, 47, 47, 32, 120, 32, 59, 32, 123, 32, 115, 105, 116, 101, 10]⟩ : ByteArray) (by decide) (.inr (.inr rfl))
    exact ⟨s', fun k => by rw [pantrylaw09_ConfBlanks.j2, hwr, if_neg q1, if_pos q2, if_pos p15]; exact h1 k, h2⟩
   obtain ⟨s', h1, h2⟩ := step (⟨#[32]⟩ : ByteArray) (by decide) (.inl rfl)
   exact ⟨s', fun k => by rw [pantrylaw09_ConfBlanks.j2, hwr, if_neg q1, if_neg q2, if_pos p1]; exact h1 k, h2⟩
  by_cases hmm : (i : Int) < (more.length : Int)
  ·
   obtain ⟨s', h1, h2⟩ := j2y (rd more (i : Int))
   refine ⟨s', fun k => ?_, h2⟩
   rw [show k + 2 * (d + 1) = k + 2 * d + 1 + 1 by omega, pantrylaw09_ConfBlanks.l0, if_pos (by omega), if_pos (by omega), if_pos (by omega), rdB ws i hlt, if_pos p0, if_pos hmm]
   exact h1 k
  ·
   obtain ⟨s', h1, h2⟩ := j2y 0
   refine ⟨s', fun k => ?_, h2⟩
   rw [show k + 2 * (d + 1) = k + 2 * d + 1 + 1 by omega, pantrylaw09_ConfBlanks.l0, if_pos (by omega), if_pos (by omega), if_pos (by omega), rdB ws i hlt, if_pos p0, if_neg hmm]
   exact h1 k
theorem tok_len : ∀ (l : List UInt8) (b : Bool) (cur : List UInt8), (tok b cur l).length ≤ l.length + 1 + (flT cur).length
 | [], b, cur => by cases b <;> (simp only [tok, List.length_append, List.length_cons, List.length_nil]; omega)
 | c :: l, true, cur => by
  rw [tok]
  have h1 := tok_len l false []
  have h2 := tok_len l true cur
  have h0 : (flT []).length = 0 := rfl
  split
  ·
   rw [List.length_append, List.length_cons]; omega
  ·
   rw [List.length_cons]; omega
 | c :: l, false, cur => by
  rw [tok]
  have h1 := tok_len l false []
  have h2 := tok_len l true []
  have h3 := tok_len l false (cur ++ [c])
  have h0 : (flT []).length = 0 := rfl
  have h4 : (flT (cur ++ [c])).length ≤ 1 := by unfold flT; split <;> simp
  rw [List.length_cons]
  split
  ·
   rw [List.length_append]; omega
  ·
   split
   ·
    rw [List.length_append]; omega
   ·
    split
    ·
     rw [List.length_append, List.length_cons]; omega
    ·
     omega
theorem firsts_inj : ∀ (a b : List WD), firsts a = firsts b → a.map zW = b.map zW
 | [], [], _ => rfl
 | [], _ :: _, h => by simp [firsts] at h
 | _ :: _, [], h => by simp [firsts] at h
 | x :: a, y :: b, h => by
  simp only [firsts, List.map_cons, List.cons.injEq] at h
  rw [List.map_cons, List.map_cons, firsts_inj a b h.2]
  congr 1
  unfold zW
  rw [ba_ext h.1]
theorem outR_z (r q : RS × List S29) (h1 : Z0 r.1) (h2 : Z0 q.1) (hc : r.1.code = q.1.code) (hs : r.2 = q.2) : (outR r).1 = (outR q).1 ∧ (outR r).2.1 = (outR q).2.1 := by
 unfold outR
 by_cases h : r.1.code = 0
 ·
  have h' : q.1.code = 0 := by rw [← hc]; exact h
  rw [if_pos ⟨h, h1 h⟩, if_pos ⟨h', h2 h'⟩]
  exact ⟨hs, rfl⟩
 ·
  have h' : ¬ q.1.code = 0 := by rw [← hc]; exact h
  rw [if_neg (fun x => h x.1), if_neg (fun x => h' x.1)]
  exact ⟨rfl, hc⟩
theorem law_ConfBlanks (t : ByteArray) (more : List Int) (hml : more.length ≤ 9223372036854775807) : ∃ k, pantrylaw09_ConfBlanks.f k t more = some true := by
 by_cases c0 : t.size ≤ 1500 ∧ more.length ≤ 300
 case neg => exact (by
  refine ⟨101, ?_⟩
  have jt : pantrylaw09_ConfBlanks.j0 101 t more true = some true := by simp [pantrylaw09_ConfBlanks.j0]
  unfold pantrylaw09_ConfBlanks.f
  rw [anchor_ok _ (by omega)]
  simp only [Option.bind_some]
  rw [if_pos trivial]
  by_cases d1 : (t.size : Int) > 1500
  ·
   rw [if_pos d1]; exact jt
  rw [if_neg d1, decide_eq_true (by omega)]
  exact jt)
 obtain ⟨h1, h2⟩ := c0
 obtain ⟨ws, hws0, hws1⟩ := rwords_eval t (by omega) 20000 (by omega)
 obtain ⟨g, hg1, hg2⟩ := tok_good t.data.toList.length t.data.toList (Nat.le_refl _)
 rw [hg1] at hws1
 obtain ⟨K1, w1, r1, hw1, hr1, hne1, hall1, gs1, hh1, h91⟩ := read_parts t (by omega)
 have ft1 : firsts w1 = g ++ [[]] := by
  have h := hw1 K1 (Nat.le_refl _)
  unfold wordsF at h
  rw [if_pos (by omega)] at h
  have := words_tok t K1 0 [] 1 (-1) w1 h (Nat.zero_le _) (by decide)
  rw [this, ← hg1]
  rfl
 have hlen : ws.length = w1.length := by
  have a := congrArg List.length hws1
  have b := congrArg List.length ft1
  simp only [bl, firsts, List.length_map] at a b
  omega
 have hwsz : ∀ x ∈ ws, x.size ≤ 5000 := by
  intro x hx
  have hm : x.data.toList ∈ bl ws := List.mem_map.2 ⟨x, hx, rfl⟩
  rw [hws1, ← ft1] at hm
  obtain ⟨p, hp, e⟩ := List.mem_map.1 hm
  have hq := of_decide_eq_true (List.all_eq_true.1 hall1 p hp)
  have e2 := congrArg List.length e
  rw [Array.length_toList, Array.length_toList] at e2
  have hz1 : p.1.data.size = p.1.size := rfl
  have hz2 : x.data.size = x.size := rfl
  omega
 have hn : ws.length ≤ 1501 := by
  have a := congrArg List.length hws1
  have b := tok_len t.data.toList false []
  rw [hg1] at b
  have h0 : (flT []).length = 0 := rfl
  have e1 : t.data.toList.length = t.size := Array.length_toList
  have e2 : (bl ws).length = ws.length := List.length_map ..
  omega
 obtain ⟨s', e', hs1, hs2⟩ := blanks_l0 t more g hg2 ws hws1 hwsz (by omega) ws.length 0 ⟨#[]⟩ (by omega) (by show 0 ≤ 0 * 6000; omega) (fun _ m => by simp) (fun h => by
  have a := congrArg List.length hws1
  simp only [bl, List.length_map, List.length_append, List.length_singleton] at a
  omega)
 have ws_up : ∀ k, 20000 ≤ k → pantryref09_Words.f k t = some ws := fun k hk => by
  have up : ∀ d, pantryref09_Words.f (20000 + d) t = some ws := fun d => by
   induction d with
   | zero => exact hws0
   | succ d ih => exact pantryref09_Words.mono _ _ _ ih
  have := up (k - 20000)
  rwa [show 20000 + (k - 20000) = k by omega] at this
 have head : ∀ k, 20000 ≤ k → pantrylaw09_ConfBlanks.f (k + 2 * ws.length + 1) t more = pantrylaw09_ConfBlanks.l0 k t more s' ws (ws.length : Int) (ws.length : Int) := fun k hk => by
  unfold pantrylaw09_ConfBlanks.f
  rw [anchor_ok _ (by omega)]
  simp only [Option.bind_some]
  rw [if_pos trivial, if_neg (by omega), decide_eq_false (by omega), pantrylaw09_ConfBlanks.j0, if_neg (by simp), ws_up _ (by omega), Option.bind_some]
  exact e' k
 by_cases hb : (s'.size : Int) > 4096
 ·
  refine ⟨20001 + 2 * ws.length + 1, ?_⟩
  rw [head 20001 (by omega), pantrylaw09_ConfBlanks.l0, if_neg (by omega), if_pos hb]
 ·
  obtain ⟨K2, w2, r2, hw2, hr2, hne2, hall2, gs2, hh2, h92⟩ := read_parts s' (by omega)
  have ft2 : firsts w2 = g ++ [[]] := by
   have h := hw2 K2 (Nat.le_refl _)
   unfold wordsF at h
   rw [if_pos (by omega)] at h
   have := words_tok s' K2 0 [] 1 (-1) w2 h (Nat.zero_le _) (by decide)
   rw [this, ← hs1]
   rfl
  obtain ⟨K, hK⟩ : ∃ K, K1 + K2 + 20000 ≤ K := ⟨_, Nat.le_refl _⟩
  have hz := firsts_inj w1 w2 (ft1.trans ft2.symm)
  have z1 := z_readL K ⟨w1, 0, 0⟩ []
  have z2 := z_readL K ⟨w2, 0, 0⟩ []
  have ez : (RS.mk w1 0 0).z = (RS.mk w2 0 0).z := by unfold RS.z; simp only [hz]
  rw [ez] at z1
  rw [z1, hr1 K (by omega), hr2 K (by omega)] at z2
  simp only [Option.map_some, Option.some.injEq, Prod.mk.injEq] at z2
  have hcz : r1.1.z.code = r2.1.z.code := by rw [z2.1]
  have hc : r1.1.code = r2.1.code := hcz
  have e1 : conf_Read.f K t = some (outR r1) := read_eq t (by omega) K w1 r1 (hw1 K (by omega)) (hr1 K (by omega)) hne1 hall1
  have e2 : conf_Read.f K s' = some (outR r2) := read_eq s' (by omega) K w2 r2 (hw2 K (by omega)) (hr2 K (by omega)) hne2 hall2
  have q1 : Z0 r1.1 := Z0_readL K _ _ _ (hr1 K (by omega)) (fun _ => rfl)
  have q2 : Z0 r2.1 := Z0_readL K _ _ _ (hr2 K (by omega)) (fun _ => rfl)
  obtain ⟨o1, o2⟩ := outR_z r1 r2 q1 q2 hc z2.2
  have ho : (outR r2).1.length ≤ 9 ∧ ∀ x ∈ (outR r2).1, x.f6.length ≤ 4 := by
   unfold outR
   split
   ·
    exact ⟨h92, hh2⟩
   ·
    exact ⟨Nat.zero_le _, fun x hx => absurd hx (by simp)⟩
  refine ⟨K + 1 + 2 * ws.length + 1, ?_⟩
  rw [head (K + 1) (by omega), pantrylaw09_ConfBlanks.l0, if_neg (by omega), if_neg hb, e1, e2]
  simp only [Option.bind_some]
  rw [o1, o2, if_pos rfl, cfg_eval _ (by omega) K (by omega)]
  simp only [Option.bind_some]
  rw [same_self ((outR r2).1.map toR) (by rw [List.length_map]; omega) (fun x hx' => by
   obtain ⟨y, hy, rfl⟩ := List.mem_map.1 hx'
   have := ho.2 y hy
   show y.f6.length ≤ 1000
   omega) K (by omega)]
  rfl

end Go.Proofs.YtfcifigemiafgaaDoor.PAll
