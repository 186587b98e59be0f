import Derived.Test.YtlncpbnadlpihaaGreatDoorPAllx0
import Derived.Test.YtlncpbnadlpihaaGreatDoorPAllx1
import Derived.Test.YtlncpbnadlpihaaGreatDoorPAllx2
import Derived.Test.YtlncpbnadlpihaaGreatDoorPAllx3
import Derived.Test.YtlncpbnadlpihaaGreatDoorPAllx4
import Derived.Test.YtlncpbnadlpihaaGreatDoorPAllx5
import Derived.Test.YtlncpbnadlpihaaGreatDoorPAllx6
import Derived.Test.YtlncpbnadlpihaaGreatDoorPAllx7
import Derived.Test.YtlncpbnadlpihaaGreatDoorPAllx8
import Derived.Test.YtlncpbnadlpihaaGreatDoorPAllx9
import Derived.Test.YtlncpbnadlpihaaGreatDoorPAllx10
import Derived.Test.YtlncpbnadlpihaaGreatDoorPAllx11
import Derived.Test.YtlncpbnadlpihaaGreatDoorPAllx12
import Derived.Test.YtlncpbnadlpihaaGreatDoorPAllx13
import Derived.Test.YtlncpbnadlpihaaGreatDoorPAllx14
import Derived.Test.YtlncpbnadlpihaaGreatDoorPAllx15
import Derived.Test.YtlncpbnadlpihaaGreatDoorPAllx16
import Derived.Test.YtlncpbnadlpihaaGreatDoorPAllx17
import Derived.Test.YtlncpbnadlpihaaGreatDoorPAllx18
import Derived.Test.YtlncpbnadlpihaaGreatDoorPAllx19
import Derived.Lib.Join
namespace Go.Proofs.YtlncpbnadlpihaaGreatDoor.PAll
open Go.RowKit Go.Proofs.YtlncpbnadlpihaaGreatDoorW.PrintWords Go.Proofs.YtlncpbnadlpihaaGreatDoorW.PrintLast Go.Proofs.YtlncpbnadlpihaaGreatDoorW.PrintMore
/-! ## Small words of layer 10 -/
theorem w64n {x : Int} (h0 : -9223372036854775808 ≤ x) (h1 : x ≤ 9223372036854775807) : wrap64 x = x := by unfold wrap64; omega
theorem anchor90 : pantrylaw10_anchor.f 90 = some true := by decide +kernel
theorem anchor_ok (k : Nat) (hk : 90 ≤ k) : pantrylaw10_anchor.f k = some true := by
 obtain ⟨j, rfl⟩ : ∃ j, k = 90 + j := ⟨k - 90, by omega⟩
 clear hk
 induction j with
 | zero => exact anchor90
 | succ j ih => exact pantrylaw10_anchor.mono _ _ ih
theorem rdS (l : List S57) (i : Nat) (h : i < l.length) : rd_T57 l (i : Int) = l[i] := by simp [rd_T57, h]
theorem rdB (l : List ByteArray) (i : Nat) (h : i < l.length) : rdOf ByteArray.empty l (i : Int) = l[i] := by simp [rdOf, h]
theorem rdA (l : List S40) (i : Nat) (h : i < l.length) : rd_T40 l (i : Int) = l[i] := by simp [rd_T40, h]

/-! ## SmallSites -/
def SmallH (x : S57) : Prop := x.f0.size ≤ 100 ∧ x.f6.length ≤ 10 ∧ ∀ h ∈ x.f6, h.size ≤ 100
/-- One site's heads, then the next site. -/
theorem sm_l1 (l : List S57) (i : Nat) (hs : List ByteArray) (h10 : hs.length ≤ 10) (hi : i + 1 ≤ 9223372036854775807) : ∀ (d j k : Nat), j + d = hs.length → d < k →
  pantrymade_SmallSites.l1 k l (l.length : Int) (i : Int) hs (hs.length : Int) (j : Int) l = some false ∨
  ((∀ h ∈ hs.drop j, h.size ≤ 100) ∧ pantrymade_SmallSites.l1 k l (l.length : Int) (i : Int) hs (hs.length : Int) (j : Int) l = pantrymade_SmallSites.l0 (k - 1 - d) l (l.length : Int) ((i + 1 : Nat) : Int) l) := by
 intro d
 induction d with
 | zero =>
  intro j k hj hk
  obtain ⟨k, rfl⟩ : ∃ j, k = j + 1 := ⟨k - 1, by omega⟩
  right
  rw [List.drop_of_length_le (by omega)]
  refine ⟨fun h hh => absurd hh (by simp), ?_⟩
  simp only [pantrymade_SmallSites.l1]
  rw [if_neg (by omega), w64n (by omega) (by omega)]
  rfl
 | succ d ih =>
  intro j k hj hk
  obtain ⟨k, rfl⟩ : ∃ j, k = j + 1 := ⟨k - 1, by omega⟩
  have hlt : j < hs.length := by omega
  simp only [pantrymade_SmallSites.l1]
  rw [if_pos (by omega), if_pos (by omega), if_pos (by omega), rdB hs j hlt]
  by_cases h1 : ((hs[j]).size : Int) > 100
  ·
   rw [if_pos h1]; exact .inl rfl
  ·
   rw [if_neg h1, w64n (by omega) (by omega), show ((j : Int) + 1) = ((j + 1 : Nat) : Int) from by omega]
   rcases ih (j + 1) k (by omega) (by omega) with h | ⟨h2, h3⟩
   ·
    exact .inl h
   ·
    refine .inr ⟨?_, by rw [h3, show k + 1 - 1 - (d + 1) = k - 1 - d from by omega]⟩
    intro h hh
    rw [List.drop_eq_getElem_cons hlt] at hh
    rcases List.mem_cons.1 hh with rfl | hh
    ·
     omega
    ·
     exact h2 h hh
theorem sm_l0 (l : List S57) (hl : l.length ≤ 9223372036854775807) : ∀ (d i k : Nat), i + d = l.length → 14 * d < k →
  ∃ b, pantrymade_SmallSites.l0 k l (l.length : Int) (i : Int) l = some b ∧ (b = true → l.length ≤ 12 ∧ ∀ x ∈ l.drop i, SmallH x) := by
 intro d
 induction d with
 | zero =>
  intro i k hi hk
  obtain ⟨k, rfl⟩ : ∃ j, k = j + 1 := ⟨k - 1, by omega⟩
  simp only [pantrymade_SmallSites.l0]
  rw [if_neg (by omega)]
  refine ⟨_, rfl, fun h => ?_⟩
  have := of_decide_eq_true h
  rw [List.drop_of_length_le (by omega)]
  exact ⟨by omega, fun f hf => by cases hf⟩
 | succ d ih =>
  intro i k hi hk
  obtain ⟨k, rfl⟩ : ∃ j, k = j + 2 := ⟨k - 2, by omega⟩
  have hlt : i < l.length := by omega
  have j1 : ∀ (b : Bool), pantrymade_SmallSites.j1 (k + 1) l (l.length : Int) (i : Int) b l l[i].f0 l[i].f1 l[i].f2 l[i].f3 l[i].f4 l[i].f5 l[i].f6 = if b = true then some false else pantrymade_SmallSites.l1 k l (l.length : Int) (i : Int) l[i].f6 (l[i].f6.length : Int) 0 l := fun b => rfl
  unfold pantrymade_SmallSites.l0
  rw [if_pos (by omega), if_pos (by omega), if_pos (by omega), rdS l i hlt]
  by_cases h1 : ((l[i].f0).size : Int) > 100
  ·
   rw [if_pos h1, j1, if_pos rfl]; exact ⟨false, rfl, fun h => by cases h⟩
  ·
   rw [if_neg h1, j1]
   by_cases h2 : ((l[i].f6).length : Int) > 10
   ·
    rw [if_pos (decide_eq_true h2)]; exact ⟨false, rfl, fun h => by cases h⟩
   ·
    rw [if_neg (by simpa using h2)]
    rcases sm_l1 l i l[i].f6 (by omega) (by omega) l[i].f6.length 0 k (by omega) (by omega) with h | ⟨h3, h4⟩
    ·
     rw [show ((0 : Nat) : Int) = 0 from rfl] at h
     rw [h]; exact ⟨false, rfl, fun h => by cases h⟩
    ·
     rw [show ((0 : Nat) : Int) = 0 from rfl] at h4
     rw [h4]
     obtain ⟨b, hb, hs⟩ := ih (i + 1) (k - 1 - l[i].f6.length) (by omega) (by omega)
     refine ⟨b, hb, fun h => ?_⟩
     obtain ⟨h5, h6⟩ := hs h
     refine ⟨h5, fun f hf => ?_⟩
     rw [List.drop_eq_getElem_cons hlt] at hf
     rcases List.mem_cons.1 hf with rfl | hf
     ·
      exact ⟨by omega, by omega, fun x hx => h3 x (by simpa using hx)⟩
     ·
      exact h6 f hf
theorem sm_eval (l : List S57) (hl : l.length ≤ 9223372036854775807) (k : Nat) (hk : 14 * l.length < k) : ∃ b, pantrymade_SmallSites.f k l = some b ∧ (b = true → l.length ≤ 12 ∧ ∀ x ∈ l, SmallH x) := by
 obtain ⟨b, hb, h⟩ := sm_l0 l hl l.length 0 k (by omega) hk
 exact ⟨b, hb, fun e => by have := h e; simpa using this⟩

/-! ## Read tells something of every text: its callees -/
theorem c1 (i : Nat) : ((i : Int) + 1) = ((i + 1 : Nat) : Int) := by omega
theorem tot_number_l0 (s : ByteArray) (hs : s.size ≤ 5000) : ∀ (d i k : Nat) (n : Int), i + d = s.size → d < k → ∃ r, sign_Number.l0 k s n (s.size : Int) (i : Int) = some r := by
 intro d
 induction d with
 | zero =>
  intro i k n hi hk
  obtain ⟨k, rfl⟩ : ∃ j, k = j + 1 := ⟨k - 1, by omega⟩
  simp only [sign_Number.l0]
  rw [if_neg (by omega)]
  exact ⟨_, rfl⟩
 | succ d ih =>
  intro i k n hi hk
  obtain ⟨k, rfl⟩ : ∃ j, k = j + 1 := ⟨k - 1, by omega⟩
  simp only [sign_Number.l0]
  rw [if_pos (by omega), if_pos (by omega), if_pos (by omega)]
  by_cases h1 : bt s (i : Int) < 48
  ·
   rw [if_pos h1]; exact ⟨_, rfl⟩
  rw [if_neg h1]
  by_cases h2 : bt s (i : Int) > 57
  ·
   rw [if_pos h2]; exact ⟨_, rfl⟩
  rw [if_neg h2, w64n (x := (i : Int) + 1) (by omega) (by omega), c1]
  exact ih (i + 1) k _ (by omega) (by omega)
theorem tot_number (s : ByteArray) (hs : s.size ≤ 5000) (k : Nat) (hk : 5000 < k) : ∃ r, sign_Number.f k s = some r := tot_number_l0 s hs s.size 0 k 0 (by omega) (by omega)
theorem tot_letter (a : Int) : ∃ b, sign_letter.f a = some b := by unfold sign_letter.f; (repeat' split) <;> exact ⟨_, rfl⟩
theorem tot_pletter (a : Int) : ∃ b, place_letter.f a = some b := by unfold place_letter.f; (repeat' split) <;> exact ⟨_, rfl⟩
theorem tot_token_l0 (s : ByteArray) (hs : s.size ≤ 5000) : ∀ (d i k : Nat), i + d = s.size → d < k → ∃ r, sign_Token.l0 k s (s.size : Int) (i : Int) = some r := by
 intro d
 induction d with
 | zero =>
  intro i k hi hk
  obtain ⟨k, rfl⟩ : ∃ j, k = j + 1 := ⟨k - 1, by omega⟩
  simp only [sign_Token.l0]
  rw [if_neg (by omega)]
  exact ⟨_, rfl⟩
 | succ d ih =>
  intro i k hi hk
  obtain ⟨k, rfl⟩ : ∃ j, k = j + 1 := ⟨k - 1, by omega⟩
  simp only [sign_Token.l0]
  rw [if_pos (by omega), if_pos (by omega), if_pos (by omega)]
  obtain ⟨b, hb⟩ := tot_letter (bt s (i : Int))
  rw [hb]
  simp only [Option.bind_some, strings_IndexByte.f]
  obtain ⟨r, hr⟩ := ih (i + 1) k (by omega) (by omega)
  rw [w64n (x := (i : Int) + 1) (by omega) (by omega), c1, hr]
  (repeat' split) <;> exact ⟨_, rfl⟩
theorem tot_token (s : ByteArray) (hs : s.size ≤ 5000) (k : Nat) (hk : 5000 < k) : ∃ r, sign_Token.f k s = some r := tot_token_l0 s hs s.size 0 k (by omega) (by omega)
theorem tot_head (s : ByteArray) (hs : s.size ≤ 5000) (k : Nat) (hk : 5000 < k) : ∃ r, conf_head.f k s = some r := by
 unfold conf_head.f
 obtain ⟨b, hb⟩ := tot_token s hs k hk
 rw [hb]
 simp only [Option.bind_some]
 have hl : sign_Lower.f s = some (lowB s) := by unfold sign_Lower.f; rw [if_pos (by omega)]
 rw [hl]
 simp only [Option.bind_some]
 (repeat' split) <;> exact ⟨_, rfl⟩
theorem tot_rising_l0 (l : List ByteArray) (hl : l.length ≤ 1000) : ∀ (d i k : Nat), l.length ≤ i + d → 1 ≤ i → i ≤ 2000 → d < k → ∃ r, conf_rising.l0 k l (i : Int) = some r := by
 intro d
 induction d with
 | zero =>
  intro i k hi h1 h2 hk
  obtain ⟨k, rfl⟩ : ∃ j, k = j + 1 := ⟨k - 1, by omega⟩
  simp only [conf_rising.l0]
  rw [if_neg (by omega)]
  exact ⟨_, rfl⟩
 | succ d ih =>
  intro i k hi h1 h2 hk
  obtain ⟨k, rfl⟩ : ∃ j, k = j + 1 := ⟨k - 1, by omega⟩
  simp only [conf_rising.l0]
  by_cases h : (i : Int) < (l.length : Int)
  ·
   obtain ⟨r, hr⟩ := ih (i + 1) k (by omega) (by omega) (by omega) (by omega)
   rw [if_pos h, if_pos (by omega), w64n (x := (i : Int) - 1) (by omega) (by omega), if_pos (by omega), if_pos (by omega), w64n (x := (i : Int) + 1) (by omega) (by omega), c1, hr]
   split <;> exact ⟨_, rfl⟩
  ·
   rw [if_neg h]; exact ⟨_, rfl⟩
theorem tot_rising (l : List ByteArray) (hl : l.length ≤ 1000) (k : Nat) (hk : 1000 < k) : ∃ r, conf_rising.f k l = some r := tot_rising_l0 l hl l.length 1 k (by omega) (by omega) (by omega) (by omega)
theorem tot_only_l0 (s : ByteArray) (ns : List Int) (hs : s.size ≤ 5000) : ∀ (d i k : Nat), i + d = s.size → d < k → ∃ r, place_only.l0 k s ns (s.size : Int) (i : Int) = some r := by
 intro d
 induction d with
 | zero =>
  intro i k hi hk
  obtain ⟨k, rfl⟩ : ∃ j, k = j + 1 := ⟨k - 1, by omega⟩
  simp only [place_only.l0]
  rw [if_neg (by omega)]
  exact ⟨_, rfl⟩
 | succ d ih =>
  intro i k hi hk
  obtain ⟨k, rfl⟩ : ∃ j, k = j + 1 := ⟨k - 1, by omega⟩
  simp only [place_only.l0]
  rw [if_pos (by omega), if_pos (by omega), if_pos (by omega)]
  obtain ⟨b, hb⟩ := tot_pletter (bt s (i : Int))
  rw [hb]
  simp only [Option.bind_some, strings_IndexByte.f]
  obtain ⟨r, hr⟩ := ih (i + 1) k (by omega) (by omega)
  rw [w64n (x := (i : Int) + 1) (by omega) (by omega), c1, hr]
  (repeat' split) <;> exact ⟨_, rfl⟩
theorem drop_le (l : List UInt8) (p : UInt8 → Bool) : (l.dropWhile p).length ≤ l.length := by
 induction l with
 | nil => simp
 | cons a l ih =>
  rw [List.dropWhile_cons]
  split
  ·
   simp only [List.length_cons]; omega
  ·
   exact Nat.le_refl _
theorem cutB_size (s : ByteArray) : (cutB s).size ≤ s.size := by
 unfold cutB
 split
 ·
  rw [ByteArray.size_extract]; omega
 ·
  exact Nat.zero_le _
theorem tot_host_j1 (k : Nat) (a b : ByteArray) (c : Bool) (ha : a.size ≤ 5000) (hb : b.size ≤ 5000) (hk : 0 < k) : ∃ r, place_Host.j1 k a b c = some r := by
 obtain ⟨k, rfl⟩ : ∃ j, k = j + 1 := ⟨k - 1, by omega⟩
 have ht : strings_TrimLeft.f b (⟨#[48]⟩ : ByteArray) = some ⟨(Lib.trimLeftB b.data.toList 48).toArray⟩ := by unfold strings_TrimLeft.f; rw [if_pos rfl]
 have hz : (⟨(Lib.trimLeftB b.data.toList 48).toArray⟩ : ByteArray).size ≤ 5000 := by
  have h1 := drop_le b.data.toList (· == 48)
  have h2 : b.data.toList.length = b.size := Array.length_toList
  show (Lib.trimLeftB b.data.toList 48).toArray.size ≤ 5000
  unfold Lib.trimLeftB
  rw [List.size_toArray]
  omega
 generalize (⟨(Lib.trimLeftB b.data.toList 48).toArray⟩ : ByteArray) = t at *
 have h58 : (⟨#[58]⟩ : ByteArray).size = 1 := rfl
 simp only [place_Host.j1]
 rw [ht]
 simp only [Option.bind_some]
 split
 ·
  exact ⟨_, rfl⟩
 ·
  split
  ·
   rw [if_pos (by omega), if_pos (by rw [ByteArray.size_append]; omega)]; exact ⟨_, rfl⟩
  ·
   rw [if_pos (by omega), if_pos (by rw [ByteArray.size_append]; omega)]; exact ⟨_, rfl⟩
theorem lowB_size (s : ByteArray) : (lowB s).size = s.size := by
 have h : (lowB s).data.toList.length = s.data.toList.length := by simp [lowB, lowL]
 rw [Array.length_toList, Array.length_toList] at h
 exact h
theorem tot_host_j0 (k : Nat) (a b : ByteArray) (n : Int) (c : Bool) (ha : a.size ≤ 5000) (hb : b.size ≤ 5000) (hk : 1 < k) : ∃ r, place_Host.j0 k a b n c = some r := by
 obtain ⟨k, rfl⟩ : ∃ j, k = j + 1 := ⟨k - 1, by omega⟩
 have hl : sign_Lower.f a = some (lowB a) := by unfold sign_Lower.f; rw [if_pos (by omega)]
 simp only [place_Host.j0]
 split
 ·
  exact ⟨_, rfl⟩
 ·
  rw [hl]
  simp only [Option.bind_some]
  split
  ·
   exact tot_host_j1 _ _ _ _ (by rw [lowB_size]; exact ha) hb (by omega)
  ·
   exact tot_host_j1 _ _ _ _ (by rw [lowB_size]; exact ha) hb (by omega)
theorem cutA_size (s : ByteArray) : (cutA s).size ≤ s.size := by
 unfold cutA
 split
 ·
  rw [ByteArray.size_extract]; omega
 ·
  exact Nat.le_refl _
theorem tot_host (s : ByteArray) (hs : s.size ≤ 5000) (k : Nat) (hk : 5000 < k) : ∃ r, place_Host.f k s = some r := by
 have hc : strings_Cut.f s (⟨#[58]⟩ : ByteArray) = some (cutA s, cutB s, cutH s) := by unfold strings_Cut.f; rw [if_pos ⟨rfl, by omega⟩]
 have ha := cutA_size s
 have hb := cutB_size s
 obtain ⟨n, hn⟩ := tot_number (cutB s) (by omega) k hk
 obtain ⟨o, ho⟩ : ∃ r, place_only.f k (cutA s) ([45, 46] : List Int) = some r := tot_only_l0 (cutA s) _ (by omega) (cutA s).size 0 k (by omega) (by omega)
 have hj : ∀ n c, ∃ r, place_Host.j0 k (cutA s) (cutB s) n c = some r := fun n c => tot_host_j0 k _ _ n c (by omega) (by omega) (by omega)
 unfold place_Host.f
 rw [hc]
 simp only [Option.bind_some]
 rw [hn]
 simp only [Option.bind_some]
 rw [ho]
 simp only [Option.bind_some]
 (repeat' split) <;> exact hj _ _
/-! ## The reader: what it keeps, how it goes on -/
/-- What holds of a reader: the last word is empty; words are small, lines are. -/
structure GS (s : RS) : Prop where
 last : ∃ l n, s.ws = l ++ [(emptyB, n)]
 word : ∀ p ∈ s.ws, p.1.size ≤ 4096 ∧ 0 ≤ p.2 ∧ p.2 ≤ 5000
 line : 0 ≤ s.line ∧ s.line ≤ 5000
/-- How many words are left, while all is well. -/
def RS.mu (s : RS) : Nat := if s.code = 0 then s.ws.length else 0
theorem GS.ne {s : RS} (h : GS s) : s.ws ≠ [] := by
 obtain ⟨l, n, e⟩ := h.last
 rw [e]; simp
theorem GS.pos {s : RS} (h : GS s) (hc : s.code = 0) : 0 < s.mu := by
 unfold RS.mu
 rw [if_pos hc]
 exact List.length_pos_iff.2 h.ne
theorem mu_zero {s : RS} (h : s.code ≠ 0) : s.mu = 0 := by unfold RS.mu; rw [if_neg h]
theorem GS.of_mu {s : RS} (h : GS s) (hm : s.mu = 0) : s.code ≠ 0 := fun hc => by have := h.pos hc; omega
theorem GS.next_size {s : RS} (h : GS s) : s.next.size ≤ 4096 := by
 unfold RS.next nextV
 split
 ·
  cases hw : s.ws with
  | nil => exact Nat.zero_le _
  | cons p l => exact (h.word p (by rw [hw]; exact List.mem_cons_self ..)).1
 ·
  exact Nat.zero_le _
theorem GS.fail {s : RS} (h : GS s) (e : Int) : GS (s.fail e) := by
 refine ⟨h.last, h.word, ?_⟩
 show 0 ≤ failL s.ws s.code s.line ∧ failL s.ws s.code s.line ≤ 5000
 unfold failL
 split
 ·
  cases hw : s.ws with
  | nil => exact absurd hw h.ne
  | cons p l => exact (h.word p (by rw [hw]; exact List.mem_cons_self ..)).2
 ·
  exact h.line
theorem fail_mu (s : RS) (e : Int) (he : e ≠ 0) : (s.fail e).mu = 0 := by
 refine mu_zero ?_
 show failC s.code e ≠ 0
 unfold failC
 split
 ·
  exact he
 ·
  assumption
theorem GS.take {s : RS} (h : GS s) : GS s.take := by
 obtain ⟨l, n, e⟩ := h.last
 refine ⟨?_, fun p hp => h.word p ?_, h.line⟩
 ·
  show ∃ l n, takeW s.ws s.code = l ++ [(emptyB, n)]
  unfold takeW
  split
  ·
   rw [e]
   cases l with
   | nil => exact ⟨[], n, rfl⟩
   | cons x l => cases l with
    | nil => exact ⟨[], n, rfl⟩
    | cons y l => exact ⟨y :: l, n, rfl⟩
  ·
   exact ⟨l, n, e⟩
 ·
  have hp' : p ∈ takeW s.ws s.code := hp
  unfold takeW at hp'
  split at hp'
  ·
   split at hp'
   ·
    rename_i h_
    rw [h_]
    exact List.mem_cons_of_mem _ hp'
   ·
    exact hp'
  ·
   exact hp'
theorem take_mu (s : RS) : s.take.mu ≤ s.mu := by
 unfold RS.mu RS.take takeW
 split
 ·
  rename_i hc
  split
  ·
   rename_i h_; rw [h_]; simp
  ·
   exact Nat.le_refl _
 ·
  exact Nat.le_refl _
/-- A word that is not empty is not the last one. -/
theorem GS.take_lt {s : RS} (h : GS s) (hc : s.code = 0) (hn : s.next.toList ≠ []) : s.take.mu < s.mu := by
 obtain ⟨l, n, e⟩ := h.last
 unfold RS.next nextV at hn
 rw [if_pos hc, e] at hn
 unfold RS.mu RS.take takeW
 simp only
 rw [if_pos hc, if_pos hc, if_pos hc, e]
 cases l with
 | nil => exact absurd (by rw [ByteArray.toList_eq]; rfl) hn
 | cons x l => cases l with
  | nil => simp
  | cons y l => simp
theorem GS.must {s : RS} (h : GS s) (t : ByteArray) : GS (s.must t) := by
 unfold RS.must
 split
 ·
  exact h.take
 ·
  exact (h.fail _).take
theorem GS.must_lt {s : RS} (h : GS s) (t : ByteArray) (ht : t.toList ≠ []) (hc : s.code = 0) : (s.must t).mu < s.mu := by
 unfold RS.must
 split
 ·
  rename_i e; exact h.take_lt hc (by rw [e]; exact ht)
 ·
  have := take_mu (s.fail 30); rw [fail_mu s 30 (by decide)] at this; have := h.pos hc; omega
theorem GS.number {s : RS} (h : GS s) (n : Int) (ok : Bool) (lo hi : Int) : GS (s.number n ok lo hi) := by
 unfold RS.number
 refine GS.take ?_
 split
 ·
  exact h.fail _
 ·
  split
  ·
   exact h.fail _
  ·
   exact h
/-! ## What the functions of layer 10 compute -/
theorem ba_eq {a b : ByteArray} : a.toList = b.toList ↔ a = b := by
 rw [ByteArray.toList_eq, ByteArray.toList_eq]
 exact ⟨fun h => ByteArray.ext (Array.toList_inj.1 h), fun h => by rw [h]⟩
theorem bd_eq {a b : ByteArray} : a.data.toList = b.data.toList ↔ a = b := ⟨fun h => ByteArray.ext (Array.toList_inj.1 h), fun h => by rw [h]⟩
def sameV (a b : S57) : Bool := decide (a.f1 = b.f1) && (decide (a.f2 = b.f2) && (decide (a.f3 = b.f3) && ((a.f4 == b.f4) && ((a.f5 == b.f5) && decide (a.f6 = b.f6)))))
theorem equal_l0 (l m : List ByteArray) (he : l.length = m.length) (hl : l.length ≤ 1000) : ∀ (d i k : Nat), i + d = l.length → d < k → slices_Equal_string_string.l0 k l m (l.length : Int) (i : Int) = some (decide (l.drop i = m.drop i)) := by
 intro d
 induction d with
 | zero =>
  intro i k hi hk
  obtain ⟨k, rfl⟩ : ∃ j, k = j + 1 := ⟨k - 1, by omega⟩
  simp only [slices_Equal_string_string.l0]
  rw [if_neg (by omega), List.drop_of_length_le (by omega), List.drop_of_length_le (by omega)]
  simp
 | succ d ih =>
  intro i k hi hk
  obtain ⟨k, rfl⟩ : ∃ j, k = j + 1 := ⟨k - 1, by omega⟩
  have h1 : i < l.length := by omega
  have h2 : i < m.length := by omega
  simp only [slices_Equal_string_string.l0]
  rw [if_pos (by omega), if_pos (by omega), if_pos (by omega), if_pos (by omega), rdB l i h1, rdB m i h2, List.drop_eq_getElem_cons h1, List.drop_eq_getElem_cons h2]
  by_cases hc : l[i].toList = m[i].toList
  ·
   rw [if_pos hc, w64n (by omega) (by omega), show ((i : Int) + 1) = ((i + 1 : Nat) : Int) by omega, ih (i + 1) k (by omega) (by omega), ba_eq.1 hc]
   congr 1
   rw [decide_eq_decide]
   exact ⟨fun e => by rw [e], fun e => (List.cons.inj e).2⟩
  ·
   rw [if_neg hc]
   have : ¬ l[i] = m[i] := fun e => hc (by rw [e])
   congr 1
   exact (decide_eq_false (fun e => this (List.cons.inj e).1)).symm
theorem equal_eval (l m : List ByteArray) (hl : l.length ≤ 1000) (k : Nat) (hk : 1000 < k) : slices_Equal_string_string.f k l m = some (decide (l = m)) := by
 unfold slices_Equal_string_string.f
 by_cases he : (l.length : Int) = (m.length : Int)
 ·
  rw [if_pos he]
  have := equal_l0 l m (by omega) hl l.length 0 k (by omega) (by omega)
  simpa using this
 ·
  rw [if_neg he]
  have : ¬ l = m := fun e => he (by rw [e])
  simp [this]
theorem same_eval (a b : S57) (hl : a.f6.length ≤ 1000) (k : Nat) (hk : 1000 < k) : plan_same.f k a.f0 a.f1 a.f2 a.f3 a.f4 a.f5 a.f6 b.f0 b.f1 b.f2 b.f3 b.f4 b.f5 b.f6 = some (sameV a b) := by
 unfold plan_same.f sameV
 rw [equal_eval a.f6 b.f6 hl k hk]
 by_cases h1 : a.f1 = b.f1
 case neg => rw [if_neg h1]; simp [h1]
 by_cases h2 : a.f2 = b.f2
 case neg => rw [if_pos h1, if_neg h2]; simp [h2]
 by_cases h3 : a.f3 = b.f3
 case neg => rw [if_pos h1, if_pos h2, if_neg h3]; simp [h3]
 by_cases h4 : (a.f4 == b.f4) = true
 case neg => rw [if_pos h1, if_pos h2, if_pos h3, if_neg h4, Bool.eq_false_iff.2 h4]; simp
 by_cases h5 : (a.f5 == b.f5) = true
 case neg => rw [if_pos h1, if_pos h2, if_pos h3, if_pos h4, if_neg h5, Bool.eq_false_iff.2 h5]; simp
 rw [if_pos h1, if_pos h2, if_pos h3, if_pos h4, if_pos h5, h4, h5]
 simp [h1, h2, h3]
theorem sameV_self (a : S57) : sameV a a = true := by simp [sameV]
theorem sameV_comm (a b : S57) : sameV a b = sameV b a := by
 unfold sameV
 rw [decide_eq_decide.2 (eq_comm (a := a.f1) (b := b.f1)), decide_eq_decide.2 (eq_comm (a := a.f2) (b := b.f2)), decide_eq_decide.2 (eq_comm (a := a.f3) (b := b.f3)), decide_eq_decide.2 (eq_comm (a := a.f6) (b := b.f6)), Bool.beq_comm (a := a.f4), Bool.beq_comm (a := a.f5)]
/-- The site of a host. -/
def findS (l : List S57) (h : ByteArray) : Option S57 := l.find? fun s => decide (s.f0 = h)
def tupS : Option S57 → ByteArray × Int × Int × Int × Bool × Bool × List ByteArray × Bool
 | some s => (s.f0, s.f1, s.f2, s.f3, s.f4, s.f5, s.f6, true)
 | none => (⟨#[]⟩, 0, 0, 0, false, false, [], false)
theorem findv_l0 (l : List S57) (host : ByteArray) (hl : l.length ≤ 1000) (hh : ∀ x ∈ l, x.f6.length ≤ 1000) : ∀ (d i k : Nat), i + d = l.length → d < k →
  conf_Config_Find.l0 k host l (l.length : Int) (i : Int) = some (tupS (findS (l.drop i) host)) := by
 intro d
 induction d with
 | zero =>
  intro i k hi hk
  obtain ⟨k, rfl⟩ : ∃ j, k = j + 1 := ⟨k - 1, by omega⟩
  simp only [conf_Config_Find.l0]
  rw [if_neg (by omega), List.drop_of_length_le (by omega)]
  rfl
 | succ d ih =>
  intro i k hi hk
  obtain ⟨k, rfl⟩ : ∃ j, k = j + 1 := ⟨k - 1, by omega⟩
  have hlt : i < l.length := by omega
  simp only [conf_Config_Find.l0]
  rw [if_pos (by omega), if_pos (by omega), if_pos (by omega), rdS l i hlt, List.drop_eq_getElem_cons hlt]
  unfold findS
  by_cases c : l[i].f0.toList = host.toList
  ·
   rw [if_pos c, List.find?_cons_of_pos (by simpa using ba_eq.1 c)]
   have hc : slices_Clone_string_string.f l[i].f6 = some l[i].f6 := by
    unfold slices_Clone_string_string.f
    rw [if_pos (by have := hh l[i] (List.getElem_mem hlt); omega)]
   rw [hc]
   rfl
  ·
   rw [if_neg c, w64n (x := (i : Int) + 1) (by omega) (by omega), c1, List.find?_cons_of_neg (by simpa using fun e => c (by rw [e]))]
   exact ih (i + 1) k (by omega) (by omega)
theorem findv_eval (l : List S57) (host : ByteArray) (hl : l.length ≤ 1000) (hh : ∀ x ∈ l, x.f6.length ≤ 1000) (k : Nat) (hk : 1000 < k) : conf_Config_Find.f k l host = some (tupS (findS l host)) := by
 unfold conf_Config_Find.f
 have := findv_l0 l host hl hh l.length 0 k (by omega) (by omega)
 simpa using this
def kindS (l0 : List S57) (s : S57) : Int := match findS l0 s.f0 with
 | none => 3
 | some w => if sameV w s = true then 0 else 1
theorem findS_mem {l : List S57} {h : ByteArray} {s : S57} (e : findS l h = some s) : s ∈ l ∧ s.f0 = h := ⟨List.mem_of_find?_eq_some e, by simpa using List.find?_some e⟩
theorem kindF_eval (l0 : List S57) (s : S57) (hl : l0.length ≤ 1000) (hh : ∀ x ∈ l0, x.f6.length ≤ 1000) (k : Nat) (hk : 1000 < k) : kindF k l0 s = some (kindS l0 s) := by
 unfold kindF kindS
 rw [findv_eval l0 s.f0 hl hh k hk]
 simp only [Option.bind_some]
 cases hf : findS l0 s.f0 with
 | none => rfl
 | some w =>
  have hm := (findS_mem hf).1
  have e : plan_same.f k (tupS (some w)).1 (tupS (some w)).2.1 (tupS (some w)).2.2.1 (tupS (some w)).2.2.2.1 (tupS (some w)).2.2.2.2.1 (tupS (some w)).2.2.2.2.2.1 (tupS (some w)).2.2.2.2.2.2.1 s.f0 s.f1 s.f2 s.f3 s.f4 s.f5 s.f6 = some (sameV w s) := same_eval w s (hh w hm) k hk
  rw [e]
  rfl
def putsV (l0 l1 : List S57) : List (ByteArray × Int) := (l1.map fun s => (s.f0, kindS l0 s)).reverse ++ putsA l0
theorem putsB_eval (l0 l1 : List S57) (hl : l0.length ≤ 1000) (hh : ∀ x ∈ l0, x.f6.length ≤ 1000) (k : Nat) (hk : 1000 < k) : putsB k l0 l1 = putsV l0 l1 := by
 unfold putsB putsV
 congr 2
 refine List.map_congr_left fun s _ => ?_
 rw [kindF_eval l0 s hl hh k hk]
 rfl
/-! ## plan.diff -/
def SmallC (l : List S57) : Prop := l.length ≤ 12 ∧ ∀ x ∈ l, SmallH x
theorem SmallC.six {l : List S57} (h : SmallC l) : ∀ x ∈ l, x.f6.length ≤ 1000 := fun x hx => by have := (h.2 x hx).2.1; omega
def hostsB (l0 l1 : List S57) : List ByteArray := (hostsL l0 l1).map fun b => ⟨b.toArray⟩
def diffV (l0 l1 : List S57) : List S40 := (hostsB l0 l1).map fun h => ⟨lookP (putsV l0 l1) h, h⟩
theorem dedupL_len : ∀ l : List (List UInt8), (dedupL l).length ≤ l.length := by
 intro l
 induction l with
 | nil => simp [dedupL]
 | cons x l ih =>
  unfold dedupL
  split <;> simp <;> omega
theorem hostsB_len (l0 l1 : List S57) : (hostsB l0 l1).length ≤ l0.length + l1.length := by
 unfold hostsB hostsL
 rw [List.length_map, List.length_mergeSort]
 have := dedupL_len (l0.map (·.f0.data.toList) ++ l1.map (·.f0.data.toList))
 simpa using this
theorem mem_hostsB (l0 l1 : List S57) (h : ByteArray) : h ∈ hostsB l0 l1 ↔ (∃ s ∈ l0, s.f0 = h) ∨ (∃ s ∈ l1, s.f0 = h) := by
 unfold hostsB hostsL
 rw [List.mem_map]
 constructor
 ·
  rintro ⟨b, hb, rfl⟩
  rw [List.mem_mergeSort, mem_dedupL, List.mem_append, List.mem_map, List.mem_map] at hb
  rcases hb with ⟨s, hs, rfl⟩ | ⟨s, hs, rfl⟩
  ·
   exact Or.inl ⟨s, hs, bd_eq.1 (by simp)⟩
  ·
   exact Or.inr ⟨s, hs, bd_eq.1 (by simp)⟩
 ·
  intro hh
  refine ⟨h.data.toList, ?_, bd_eq.1 (by simp)⟩
  rw [List.mem_mergeSort, mem_dedupL, List.mem_append, List.mem_map, List.mem_map]
  rcases hh with ⟨s, hs, rfl⟩ | ⟨s, hs, rfl⟩
  ·
   exact Or.inl ⟨s, hs, rfl⟩
  ·
   exact Or.inr ⟨s, hs, rfl⟩
theorem diff_l0 (l0 l1 : List S57) (h0 : l0.length ≤ 1000) : ∀ (d i k : Nat), i + d = l0.length → d < k → plan_diff.l0 k l0 (l0.length : Int) (i : Int) l0 l1 = plan_diff.l1 (k - 1 - d) l0 l1 (l1.length : Int) 0 l0 := by
 intro d
 induction d with
 | zero =>
  intro i k hi hk
  obtain ⟨k, rfl⟩ : ∃ j, k = j + 1 := ⟨k - 1, by omega⟩
  simp only [plan_diff.l0]
  rw [if_neg (by omega)]
  rfl
 | succ d ih =>
  intro i k hi hk
  obtain ⟨k, rfl⟩ : ∃ j, k = j + 1 := ⟨k - 1, by omega⟩
  simp only [plan_diff.l0]
  rw [if_pos (by omega), if_pos (by omega), if_pos (by omega), w64n (by omega) (by omega), c1, ih (i + 1) k (by omega) (by omega), show k + 1 - 1 - (d + 1) = k - 1 - d by omega]
theorem diff_l1 (l0 l1 : List S57) (h0 : SmallC l0) (h1 : SmallC l1) : ∀ (d i k : Nat), i + d = l1.length → d + 1100 < k → plan_diff.l1 k l0 l1 (l1.length : Int) (i : Int) l0 = plan_diff.l2 (k - 1 - d) [] l0 l1 (hostsB l0 l1) ((hostsB l0 l1).length : Int) 0 := by
 have hl := h1.1
 have hl0 := h0.1
 intro d
 induction d with
 | zero =>
  intro i k hi hk
  obtain ⟨k, rfl⟩ : ∃ j, k = j + 1 := ⟨k - 1, by omega⟩
  simp only [plan_diff.l1]
  rw [if_neg (by omega)]
  rfl
 | succ d ih =>
  intro i k hi hk
  obtain ⟨k, rfl⟩ : ∃ j, k = j + 1 := ⟨k - 1, by omega⟩
  have hlt : i < l1.length := by omega
  have rc : plan_diff.l1 k l0 l1 (l1.length : Int) (wrap64 ((i : Int) + 1)) l0 = plan_diff.l2 (k + 1 - 1 - (d + 1)) [] l0 l1 (hostsB l0 l1) ((hostsB l0 l1).length : Int) 0 := by
   rw [w64n (by omega) (by omega), c1, ih (i + 1) k (by omega) (by omega), show k + 1 - 1 - (d + 1) = k - 1 - d by omega]
  simp only [plan_diff.l1]
  rw [if_pos (by omega), if_pos (by omega), if_pos (by omega), rdS l1 i hlt, findv_eval l0 _ (by omega) h0.six k (by omega)]
  simp only [Option.bind_some]
  cases hf : findS l0 (l1[i]).f0 with
  | none =>
   rw [if_neg (by simp [tupS])]
   exact rc
  | some w =>
   have hm := (findS_mem hf).1
   have e : plan_same.f k (tupS (some w)).1 (tupS (some w)).2.1 (tupS (some w)).2.2.1 (tupS (some w)).2.2.2.1 (tupS (some w)).2.2.2.2.1 (tupS (some w)).2.2.2.2.2.1 (tupS (some w)).2.2.2.2.2.2.1 (l1[i]).f0 (l1[i]).f1 (l1[i]).f2 (l1[i]).f3 (l1[i]).f4 (l1[i]).f5 (l1[i]).f6 = some (sameV w l1[i]) := same_eval w l1[i] (h0.six w hm) k (by omega)
   rw [if_pos (by rfl), e]
   simp only [Option.bind_some]
   split <;> exact rc
theorem diff_l2 (l0 l1 : List S57) (h0 : SmallC l0) (_h1 : SmallC l1) (hs : List ByteArray) (hl : hs.length ≤ 1000) (hz : ∀ h ∈ hs, h.size ≤ 1000000) : ∀ (d i k : Nat) (acc : List S40), i + d = hs.length → d + 1100 < k → acc.length ≤ i →
  plan_diff.l2 k acc l0 l1 hs (hs.length : Int) (i : Int) = some (acc ++ (hs.drop i).map fun h => (⟨lookP (putsV l0 l1) h, h⟩ : S40)) := by
 have hl0 := h0.1
 intro d
 induction d with
 | zero =>
  intro i k acc hi hk ha
  obtain ⟨k, rfl⟩ : ∃ j, k = j + 1 := ⟨k - 1, by omega⟩
  simp only [plan_diff.l2]
  rw [if_neg (by omega), List.drop_of_length_le (by omega)]
  simp
 | succ d ih =>
  intro i k acc hi hk ha
  obtain ⟨k, rfl⟩ : ∃ j, k = j + 1 := ⟨k - 1, by omega⟩
  have hlt : i < hs.length := by omega
  have e : maps_Keys_map_string_int_string_int.f k l0 l1 hs[i] = some (lookP (putsV l0 l1) hs[i]) := by
   unfold maps_Keys_map_string_int_string_int.f
   have ha : (l1.all fun s => (kindF k l0 s).isSome) = true := List.all_eq_true.2 fun s _ => by rw [kindF_eval l0 s (by omega) h0.six k (by omega)]; rfl
   rw [if_pos ⟨ha, hz _ (List.getElem_mem hlt)⟩, putsB_eval l0 l1 (by omega) h0.six k (by omega)]
  simp only [plan_diff.l2]
  rw [if_pos (by omega), if_pos (by omega), if_pos (by omega), rdB hs i hlt, e]
  simp only [Option.bind_some]
  rw [if_pos (by omega), w64n (by omega) (by omega), c1, ih (i + 1) k _ (by omega) (by omega) (by simp; omega), List.drop_eq_getElem_cons hlt, List.map_cons, List.append_assoc]
  rfl
theorem diff_eval (l0 l1 : List S57) (h0 : SmallC l0) (h1 : SmallC l1) (k : Nat) (hk : 3000 < k) : plan_diff.f k l0 l1 = some (diffV l0 l1) := by
 have a0 := h0.1
 have a1 := h1.1
 have hlen := hostsB_len l0 l1
 have hok : hostsOk l0 l1 = true := by
  unfold hostsOk
  simp only [Bool.and_eq_true, decide_eq_true_eq]
  refine ⟨⟨⟨by omega, by omega⟩, ?_⟩, ?_⟩
  ·
   exact List.all_eq_true.2 fun s hs => decide_eq_true (by have := (h0.2 s hs).1; omega)
  ·
   exact List.all_eq_true.2 fun s hs => decide_eq_true (by have := (h1.2 s hs).1; omega)
 have hz : ∀ h ∈ hostsB l0 l1, h.size ≤ 1000000 := by
  intro h hh
  rcases (mem_hostsB l0 l1 h).1 hh with ⟨s, hs, rfl⟩ | ⟨s, hs, rfl⟩
  ·
   have := (h0.2 s hs).1; omega
  ·
   have := (h1.2 s hs).1; omega
 unfold plan_diff.f
 rw [if_pos hok]
 have e0 := diff_l0 l0 l1 (by omega) l0.length 0 k (by omega) (by omega)
 have e1 := diff_l1 l0 l1 h0 h1 l1.length 0 (k - 1 - l0.length) (by omega) (by omega)
 have e2 := diff_l2 l0 l1 h0 h1 (hostsB l0 l1) (by omega) hz (hostsB l0 l1).length 0 (k - 1 - l0.length - 1 - l1.length) [] (by omega) (by omega) (by simp)
 simp only [Int.natCast_zero] at e0 e1 e2
 rw [e0, e1, e2]
 simp [diffV]
/-! ## Right -/
theorem tot_bad (l : List ByteArray) (hl : l.length ≤ 1000) (hh : ∀ x ∈ l, x.size ≤ 5000) (k : Nat) (hk : 5000 < k) : ∃ r, badHeads.f k l = some r := by
 have ha : (l.all fun x => (conf_Site_Right_1.f k x).isSome) = true := List.all_eq_true.2 fun x hx => by
  obtain ⟨r, hr⟩ := tot_head x (hh x hx) k hk
  unfold conf_Site_Right_1.f
  rw [hr]
  rfl
 unfold badHeads.f
 rw [if_pos ⟨by omega, ha⟩]
 exact ⟨_, rfl⟩
theorem tot_right (s : S57) (h : SmallH s) (k : Nat) (hk : 6000 < k) : ∃ r, conf_Site_Right.f k s.f0 s.f1 s.f2 s.f3 s.f4 s.f5 s.f6 = some r := by
 obtain ⟨h1, h2, h3⟩ := h
 obtain ⟨a, ha⟩ := tot_host s.f0 (by omega) k (by omega)
 obtain ⟨b, hb⟩ := tot_rising s.f6 (by omega) k (by omega)
 obtain ⟨c, hc⟩ := tot_bad s.f6 (by omega) (fun x hx => by have := h3 x hx; omega) k (by omega)
 unfold conf_Site_Right.f
 rw [ha]
 simp only [Option.bind_some]
 rw [hb]
 simp only [Option.bind_some]
 rw [hc]
 simp only [Option.bind_some]
 (repeat' split) <;> exact ⟨_, rfl⟩
theorem right_l0 (l : List S57) (h : SmallC l) : ∀ (d i k : Nat), i + d = l.length → d + 6001 < k →
  ∃ b, conf_Config_Right.l0 k l (l.length : Int) (i : Int) l = some b ∧ (b = true → ∀ (j : Nat) (hj : j < l.length), i ≤ j → inB l[j].f0 ((l.take j).map (·.f0)) = false) := by
 have hl := h.1
 intro d
 induction d with
 | zero =>
  intro i k hi hk
  obtain ⟨k, rfl⟩ : ∃ j, k = j + 1 := ⟨k - 1, by omega⟩
  simp only [conf_Config_Right.l0]
  rw [if_neg (by omega)]
  exact ⟨_, rfl, fun _ j hj hij => by omega⟩
 | succ d ih =>
  intro i k hi hk
  obtain ⟨k, rfl⟩ : ∃ j, k = j + 1 := ⟨k - 1, by omega⟩
  have hlt : i < l.length := by omega
  obtain ⟨r, hr⟩ := tot_right l[i] (h.2 _ (List.getElem_mem hlt)) k (by omega)
  have hsz := (h.2 _ (List.getElem_mem hlt)).1
  have es : seenAt.f l (i : Int) = some (inB l[i].f0 ((l.take i).map (·.f0))) := by
   unfold seenAt.f
   rw [rdS l i hlt, if_pos (by omega)]
   rfl
  simp only [conf_Config_Right.l0]
  rw [if_pos (by omega), if_pos (by omega), if_pos (by omega), rdS l i hlt, hr]
  simp only [Option.bind_some]
  cases r with
  | false => rw [if_neg (by simp)]; exact ⟨false, rfl, fun e => by cases e⟩
  | true =>
   rw [if_pos rfl, es]
   simp only [Option.bind_some]
   cases hin : inB l[i].f0 ((l.take i).map (·.f0)) with
   | true => rw [if_pos rfl]; exact ⟨false, rfl, fun e => by cases e⟩
   | false =>
    rw [if_neg (by simp), w64n (by omega) (by omega), c1]
    obtain ⟨b, hb, hu⟩ := ih (i + 1) k (by omega) (by omega)
    refine ⟨b, hb, fun e j hj hij => ?_⟩
    by_cases he : j = i
    ·
     subst he; exact hin
    ·
     exact hu e j hj (by omega)
def Uniq (l : List S57) : Prop := (l.map (·.f0)).Nodup
theorem right_eval (l : List S57) (h : SmallC l) (k : Nat) (hk : 7000 < k) : ∃ b, conf_Config_Right.f k l = some b ∧ (b = true → Uniq l) := by
 have hl := h.1
 obtain ⟨b, hb, hu⟩ := right_l0 l h l.length 0 k (by omega) (by omega)
 refine ⟨b, ?_, fun e => ?_⟩
 ·
  unfold conf_Config_Right.f
  rw [if_pos (by omega)]
  exact hb
 ·
  have hu := hu e
  unfold Uniq
  rw [List.nodup_iff_pairwise_ne, List.pairwise_iff_getElem]
  intro i j hi hj hij e2
  have hj' : j < l.length := by simpa using hj
  have hi' : i < l.length := by simpa using hi
  have h2 := hu j hj' (Nat.zero_le _)
  simp only [List.getElem_map] at e2
  unfold inB at h2
  rw [List.any_eq_false] at h2
  have hm : l[i].f0 ∈ (l.take j).map (·.f0) := List.mem_map.2 ⟨l[i], List.mem_take_iff_getElem.2 ⟨i, by omega, rfl⟩, rfl⟩
  exact h2 _ hm (by rw [e2]; simp)
theorem Diff_eval (l0 l1 : List S57) (h0 : SmallC l0) (h1 : SmallC l1) (k : Nat) (hk : 7000 < k) (r0 : conf_Config_Right.f k l0 = some true) (r1 : conf_Config_Right.f k l1 = some true) : plan_Diff.f k l0 l1 = some (diffV l0 l1, 0) := by
 unfold plan_Diff.f
 rw [r0]
 simp only [Option.bind_some]
 rw [if_pos trivial, r1]
 simp only [Option.bind_some]
 rw [if_pos trivial, diff_eval l0 l1 h0 h1 k (by omega)]
 rfl

/-! ## PlanTurns -/
/-- What becomes of a host, told by the two rows alone. -/
def kindD (a b : List S57) (q : ByteArray) : Int := match findS b q with
 | some s => kindS a s
 | none => if (findS a q).isSome then 2 else 0
theorem find_uniq {l : List S57} (hu : Uniq l) {s : S57} (hs : s ∈ l) : findS l s.f0 = some s := by
 induction l with
 | nil => cases hs
 | cons x l ih =>
  unfold Uniq at hu
  rw [List.map_cons, List.nodup_cons] at hu
  unfold findS
  by_cases h : x.f0 = s.f0
  ·
   rw [List.find?_cons_of_pos (by simpa using h)]
   rcases List.mem_cons.1 hs with rfl | hs
   ·
    rfl
   ·
    exact absurd (List.mem_map.2 ⟨s, hs, h.symm⟩) hu.1
  ·
   rw [List.find?_cons_of_neg (by simpa using h)]
   rcases List.mem_cons.1 hs with rfl | hs
   ·
    exact absurd rfl h
   ·
    exact ih hu.2 hs
theorem find_none {l : List S57} {q : ByteArray} (h : findS l q = none) : ∀ s ∈ l, s.f0 ≠ q := fun s hs e => by
 unfold findS at h
 have := List.find?_eq_none.1 h s hs
 simp [e] at this
theorem look_app (xs ys : List (ByteArray × Int)) (q : ByteArray) (h : ∀ p ∈ xs, p.1 ≠ q) : lookP (xs ++ ys) q = lookP ys q := by
 induction xs with
 | nil => rfl
 | cons p xs ih =>
  obtain ⟨a, v⟩ := p
  have h1 : ¬ a.data.toList = q.data.toList := fun e => h (a, v) (by simp) (bd_eq.1 e)
  show lookP ((a, v) :: (xs ++ ys)) q = _
  simp only [lookP]
  rw [if_neg h1]
  exact ih fun p hp => h p (by simp [hp])
theorem look_at (xs ys : List (ByteArray × Int)) (q : ByteArray) (v : Int) (hm : (q, v) ∈ xs) (hu : ∀ p ∈ xs, p.1 = q → p.2 = v) : lookP (xs ++ ys) q = v := by
 induction xs with
 | nil => cases hm
 | cons p xs ih =>
  obtain ⟨a, u⟩ := p
  show lookP ((a, u) :: (xs ++ ys)) q = _
  simp only [lookP]
  by_cases h1 : a.data.toList = q.data.toList
  ·
   rw [if_pos h1]
   exact hu (a, u) (by simp) (bd_eq.1 h1)
  ·
   rw [if_neg h1]
   rcases List.mem_cons.1 hm with e | hm
   ·
    exact absurd (by rw [(Prod.mk.inj e).1]) h1
   ·
    exact ih hm fun p hp => hu p (by simp [hp])
theorem kind_eq (a b : List S57) (hb : Uniq b) (q : ByteArray) : lookP (putsV a b) q = kindD a b q := by
 unfold putsV kindD
 cases hf : findS b q with
 | some s =>
  obtain ⟨hm, he⟩ := findS_mem hf
  refine look_at _ _ q _ (List.mem_reverse.2 (List.mem_map.2 ⟨s, hm, by rw [he]⟩)) fun p hp e => ?_
  obtain ⟨s', hs', rfl⟩ := List.mem_map.1 (List.mem_reverse.1 hp)
  have h1 := find_uniq hb hs'
  have e' : s'.f0 = q := e
  rw [e', hf] at h1
  rw [Option.some.inj h1]
 | none =>
  rw [look_app _ _ q fun p hp => by
   obtain ⟨s', hs', rfl⟩ := List.mem_map.1 (List.mem_reverse.1 hp)
   exact find_none hf s' hs']
  unfold putsA
  cases hg : findS a q with
  | some s =>
   obtain ⟨hm, he⟩ := findS_mem hg
   have := look_at ((a.map fun s => (s.f0, (2 : Int))).reverse) [] q 2 (List.mem_reverse.2 (List.mem_map.2 ⟨s, hm, by rw [he]⟩)) (fun p hp _ => by
    obtain ⟨s', hs', rfl⟩ := List.mem_map.1 (List.mem_reverse.1 hp)
    rfl)
   rw [List.append_nil] at this
   rw [this]
   rfl
  | none =>
   have := look_app ((a.map fun s => (s.f0, (2 : Int))).reverse) [] q (fun p hp => by
    obtain ⟨s', hs', rfl⟩ := List.mem_map.1 (List.mem_reverse.1 hp)
    exact find_none hg s' hs')
   rw [List.append_nil] at this
   rw [this]
   rfl
theorem kind_own (a : List S57) (ha : Uniq a) (q : ByteArray) (h : ∃ s ∈ a, s.f0 = q) : kindD a a q = 0 := by
 obtain ⟨s, hs, rfl⟩ := h
 unfold kindD kindS
 rw [find_uniq ha hs]
 simp only
 rw [find_uniq ha hs]
 simp [sameV_self]
theorem kind_back (a b : List S57) (_ha : Uniq a) (_hb : Uniq b) (q : ByteArray) (h : (∃ s ∈ a, s.f0 = q) ∨ (∃ s ∈ b, s.f0 = q)) : 0 ≤ kindD a b q ∧ kindD a b q < 4 ∧ kindD b a q = rd [0, 1, 3, 2] (kindD a b q) := by
 cases hf : findS a q with
 | some x =>
  obtain ⟨hx, ex⟩ := findS_mem hf
  cases hg : findS b q with
  | some y =>
   obtain ⟨hy, ey⟩ := findS_mem hg
   have e1 : kindD a b q = if sameV x y = true then 0 else 1 := by
    unfold kindD kindS
    rw [hg]
    simp only
    rw [ey, hf]
   have e2 : kindD b a q = if sameV x y = true then 0 else 1 := by
    unfold kindD kindS
    rw [hf]
    simp only
    rw [ex, hg, sameV_comm x y]
   rw [e1, e2]
   by_cases hs : sameV x y = true
   ·
    rw [if_pos hs]; decide
   ·
    rw [if_neg hs]; decide
  | none =>
   have e1 : kindD a b q = 2 := by unfold kindD; rw [hg, hf]; rfl
   have e2 : kindD b a q = 3 := by
    unfold kindD kindS
    rw [hf]
    simp only
    rw [ex, hg]
   rw [e1, e2]
   decide
 | none =>
  cases hg : findS b q with
  | some y =>
   obtain ⟨hy, ey⟩ := findS_mem hg
   have e1 : kindD a b q = 3 := by
    unfold kindD kindS
    rw [hg]
    simp only
    rw [ey, hf]
   have e2 : kindD b a q = 2 := by unfold kindD; rw [hf, hg]; rfl
   rw [e1, e2]
   decide
  | none =>
   rcases h with ⟨s, hs, e⟩ | ⟨s, hs, e⟩
   ·
    exact absurd e (find_none hf s hs)
   ·
    exact absurd e (find_none hg s hs)
theorem hosts_comm (a b : List S57) : hostsB a b = hostsB b a := by
 unfold hostsB hostsL
 congr 1
 refine mergeSort_of_perm (dedupL_perm fun x => ?_)
 rw [List.mem_append, List.mem_append]
 exact Or.comm
theorem hosts_own (a : List S57) (ha : Uniq a) : (hostsB a a).length = a.length := by
 unfold hostsB hostsL
 rw [List.length_map, List.length_mergeSort]
 have hn : (a.map (·.f0.data.toList)).Nodup := List.pairwise_map.2 ((List.pairwise_map.1 ha).imp fun hne e => hne (bd_eq.1 e))
 have hp : (dedupL (a.map (·.f0.data.toList) ++ a.map (·.f0.data.toList))).Perm (a.map (·.f0.data.toList)) :=
  (List.perm_ext_iff_of_nodup (nodup_dedupL _) hn).2 fun x => by rw [mem_dedupL, List.mem_append, or_self]
 rw [hp.length_eq, List.length_map]
theorem hosts_rise (a b : List S57) (i : Nat) (h : i + 1 < (hostsB a b).length) : Op.bytesLess ((hostsB a b)[i]'(by omega)).toList ((hostsB a b)[i + 1]'h).toList = true := by
 have tr : ∀ a b c : List UInt8, leB a b = true → leB b c = true → leB a c = true := fun a b c h1 h2 => by simp only [leB, decide_eq_true_eq] at *; exact List.le_trans h1 h2
 have tt : ∀ a b : List UInt8, (leB a b || leB b a) = true := fun a b => by simp only [leB, Bool.or_eq_true, decide_eq_true_eq]; exact List.le_total a b
 have hl : i + 1 < (hostsL a b).length := by simpa [hostsB] using h
 have hs := List.pairwise_mergeSort tr tt (dedupL (a.map (·.f0.data.toList) ++ b.map (·.f0.data.toList)))
 have hn : (hostsL a b).Nodup := (List.Perm.nodup_iff (List.mergeSort_perm _ _)).2 (nodup_dedupL _)
 have h1 := List.pairwise_iff_getElem.1 hs i (i + 1) (by exact (by omega : i < (hostsL a b).length)) hl (by omega)
 have h2 := List.pairwise_iff_getElem.1 (List.nodup_iff_pairwise_ne.1 hn) i (i + 1) (by omega) hl (by omega)
 have h3 : (hostsL a b)[i]'(by omega) < (hostsL a b)[i + 1]'hl := by
  have h4 : (hostsL a b)[i]'(by omega) ≤ (hostsL a b)[i + 1]'hl := of_decide_eq_true h1
  rcases List.le_iff_lt_or_eq.1 h4 with h5 | h5
  ·
   exact h5
  ·
   exact absurd h5 h2
 have e : ∀ (j : Nat) (hj : j < (hostsB a b).length), ((hostsB a b)[j]'hj).toList = (hostsL a b)[j]'(by simpa [hostsB] using hj) := fun j hj => by
  rw [ByteArray.toList_eq]
  simp [hostsB]
 rw [bytesLess_eq, e, e]
 exact decide_eq_true h3
theorem turns_l0 (own t1 t2 : List S40) (hl : own.length ≤ 1000) (hk0 : ∀ x ∈ own, x.f0 = 0) : ∀ (d i k : Nat), i + d = own.length → d < k →
  pantrylaw10_PlanTurns.l0 k t1 t2 own (own.length : Int) (i : Int) = pantrylaw10_PlanTurns.l1 (k - 1 - d) t1 t2 t1 (t1.length : Int) 0 := by
 intro d
 induction d with
 | zero =>
  intro i k hi hk
  obtain ⟨k, rfl⟩ : ∃ j, k = j + 1 := ⟨k - 1, by omega⟩
  simp only [pantrylaw10_PlanTurns.l0]
  rw [if_neg (by omega)]
  rfl
 | succ d ih =>
  intro i k hi hk
  obtain ⟨k, rfl⟩ : ∃ j, k = j + 1 := ⟨k - 1, by omega⟩
  have hlt : i < own.length := by omega
  simp only [pantrylaw10_PlanTurns.l0]
  rw [if_pos (by omega), if_pos (by omega), if_pos (by omega), rdA own i hlt, if_pos (hk0 _ (List.getElem_mem hlt)), w64n (by omega) (by omega), c1, ih (i + 1) k (by omega) (by omega), show k + 1 - 1 - (d + 1) = k - 1 - d by omega]
theorem turns_l1 (a b : List S57) (ha : Uniq a) (hb : Uniq b) (hl : (hostsB a b).length ≤ 1000) : ∀ (d i k : Nat), i + d = (diffV a b).length → d < k →
  pantrylaw10_PlanTurns.l1 k (diffV a b) (diffV b a) (diffV a b) ((diffV a b).length : Int) (i : Int) = some true := by
 have l1 : (diffV a b).length = (hostsB a b).length := by simp [diffV]
 have l2 : (diffV b a).length = (hostsB a b).length := by simp [diffV, hosts_comm b a]
 have at1 : ∀ (j : Nat) (hj : j < (diffV a b).length), (diffV a b)[j] = ⟨kindD a b ((hostsB a b)[j]'(by omega)), (hostsB a b)[j]'(by omega)⟩ := fun j hj => by
  simp [diffV, kind_eq a b hb]
 have at2 : ∀ (j : Nat) (hj : j < (diffV b a).length), (diffV b a)[j] = ⟨kindD b a ((hostsB a b)[j]'(by omega)), (hostsB a b)[j]'(by omega)⟩ := fun j hj => by
  simp [diffV, kind_eq b a ha, hosts_comm b a]
 intro d
 induction d with
 | zero =>
  intro i k hi hk
  obtain ⟨k, rfl⟩ : ∃ j, k = j + 1 := ⟨k - 1, by omega⟩
  simp only [pantrylaw10_PlanTurns.l1]
  rw [if_neg (by omega)]
 | succ d ih =>
  intro i k hi hk
  obtain ⟨k, rfl⟩ : ∃ j, k = j + 1 := ⟨k - 1, by omega⟩
  have hlt : i < (diffV a b).length := by omega
  have hlt2 : i < (diffV b a).length := by omega
  have hlt3 : i < (hostsB a b).length := by omega
  obtain ⟨k1, k2, k3⟩ := kind_back a b ha hb ((hostsB a b)[i]) ((mem_hostsB a b _).1 (List.getElem_mem hlt3))
  have rc := ih (i + 1) k (by omega) (by omega)
  rw [← c1, ← w64n (x := (i : Int) + 1) (by omega) (by omega)] at rc
  simp only [pantrylaw10_PlanTurns.l1]
  rw [if_pos (by omega), if_pos (by omega), if_pos (by omega), rdA (diffV a b) i hlt, at1 i hlt]
  simp only [Option.bind_some]
  rw [if_pos k1, if_pos (by simp; omega), if_pos (by omega), rdA (diffV b a) i hlt2, at2 i hlt2]
  simp only
  rw [if_pos trivial, if_pos k3]
  by_cases h0 : (i : Int) > 0
  ·
   obtain ⟨p, rfl⟩ : ∃ p, i = p + 1 := ⟨i - 1, by omega⟩
   have hw : wrap64 (((p + 1 : Nat) : Int) - 1) = (p : Int) := by unfold wrap64; omega
   have hp : p < (diffV a b).length := by omega
   rw [if_pos h0, hw, if_pos (by omega), if_pos (by omega), rdA (diffV a b) p hp, at1 p hp]
   simp only
   rw [if_pos (hosts_rise a b p hlt3)]
   exact rc
  ·
   rw [if_neg h0]
   exact rc
theorem law_PlanTurns (a b : List S57) (h0 : a.length ≤ 9223372036854775807) (h1 : b.length ≤ 9223372036854775807) : ∃ k, pantrylaw10_PlanTurns.f k a b = some true := by
 obtain ⟨K, hK⟩ : ∃ K, 14 * (a.length + b.length) + 20000 ≤ K := ⟨_, Nat.le_refl _⟩
 refine ⟨K + 2, ?_⟩
 have jt : pantrylaw10_PlanTurns.j0 (K + 2) true a b = some true := by simp [pantrylaw10_PlanTurns.j0]
 unfold pantrylaw10_PlanTurns.f
 rw [anchor_ok _ (by omega)]
 simp only [Option.bind_some]
 rw [if_pos trivial]
 obtain ⟨x, hx, hxs⟩ := sm_eval a h0 (K + 2) (by omega)
 rw [hx]
 simp only [Option.bind_some]
 cases x with
 | false => rw [if_neg (by simp)]; exact jt
 | true =>
  rw [if_pos rfl]
  obtain ⟨y, hy, hys⟩ := sm_eval b h1 (K + 2) (by omega)
  rw [hy]
  simp only [Option.bind_some]
  cases y with
  | false => rw [if_neg (by simp)]; exact jt
  | true =>
   have sa : SmallC a := hxs rfl
   have sb : SmallC b := hys rfl
   rw [if_pos rfl]
   obtain ⟨ra, ea, ua⟩ := right_eval a sa (K + 1) (by omega)
   obtain ⟨rb, eb, ub⟩ := right_eval b sb (K + 1) (by omega)
   rw [conf_Config_Right.mono a (K + 1) ra ea]
   simp only [Option.bind_some]
   cases ra with
   | false => rw [if_neg (by simp)]; exact jt
   | true =>
    rw [if_pos rfl, conf_Config_Right.mono b (K + 1) rb eb]
    simp only [Option.bind_some]
    cases rb with
    | false => exact jt
    | true =>
     have ua := ua rfl
     have ub := ub rfl
     have la := sa.1
     have lb := sb.1
     have hlen := hostsB_len a b
     have hlen2 := hostsB_len a a
     have e1 := Diff_eval a a sa sa (K + 1) (by omega) ea ea
     have e2 := Diff_eval a b sa sb (K + 1) (by omega) ea eb
     have e3 := Diff_eval b a sb sa (K + 1) (by omega) eb ea
     have l1 : (diffV a b).length = (hostsB a b).length := by simp [diffV]
     have l2 : (diffV b a).length = (hostsB a b).length := by simp [diffV, hosts_comm b a]
     have l3 : (diffV a a).length = a.length := by rw [← hosts_own a ua]; simp [diffV]
     have own : ∀ x ∈ diffV a a, x.f0 = 0 := by
      intro x hx
      unfold diffV at hx
      obtain ⟨h, hh, rfl⟩ := List.mem_map.1 hx
      show lookP (putsV a a) h = 0
      rw [kind_eq a a ua, kind_own a ua h (by rcases (mem_hostsB a a h).1 hh with h | h <;> exact h)]
     have t0 := turns_l0 (diffV a a) (diffV a b) (diffV b a) (by omega) own (diffV a a).length 0 K (by omega) (by omega)
     have t1 := turns_l1 a b ua ub (by omega) (diffV a b).length 0 (K - 1 - (diffV a a).length) (by omega) (by omega)
     simp only [Int.natCast_zero] at t0 t1
     show pantrylaw10_PlanTurns.j0 (K + 1 + 1) (!true) a b = some true
     simp only [pantrylaw10_PlanTurns.j0]
     rw [if_neg (by simp), e1]
     simp only [Option.bind_some]
     rw [e2]
     simp only [Option.bind_some]
     rw [e3]
     simp only [Option.bind_some]
     rw [if_pos (by omega), l1, l2]
     have hb : (((hostsB a b).length : Int) != ((hostsB a b).length : Int)) = false := by simp
     rw [hb]
     simp only [pantrylaw10_PlanTurns.j1]
     rw [if_neg (by simp), t0]
     exact t1

end Go.Proofs.YtlncpbnadlpihaaGreatDoor.PAll
