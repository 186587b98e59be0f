import Derived.Test.YtcechlbeghcliaaDoorPAllx0
import Derived.Test.YtcechlbeghcliaaDoorPAllx1
import Derived.Test.YtcechlbeghcliaaDoorPAllx2
import Derived.Test.YtcechlbeghcliaaDoorPAllx3
import Derived.Test.YtcechlbeghcliaaDoorPAllx4
import Derived.Test.YtcechlbeghcliaaDoorPAllx5
import Derived.Test.YtcechlbeghcliaaDoorPAllx6
import Derived.Test.YtcechlbeghcliaaDoorPAllx7
import Derived.Test.YtcechlbeghcliaaDoorPAllx8
import Derived.Test.YtcechlbeghcliaaDoorPAllx9
import Derived.Test.YtcechlbeghcliaaDoorPAllx10
import Derived.Test.YtcechlbeghcliaaDoorPAllx11
import Derived.Lib.Join
namespace Go.Proofs.YtcechlbeghcliaaDoor.PAll
open Go.RowKit Go.Proofs.YtcechlbeghcliaaDoorW.PrintWords Go.Proofs.YtcechlbeghcliaaDoorW.PrintLast Go.Proofs.YtcechlbeghcliaaDoorW.PrintMore
set_option linter.unusedVariables false
set_option linter.unusedSimpArgs false

theorem lowB_list (s : ByteArray) : (lowB s).data.toList = lowL s.data.toList := by simp [lowB]

theorem bt_at2 (s : ByteArray) (i : Nat) (h : i < s.data.toList.length) : bt s (i : Int) = ((s.data.toList[i]).toNat : Int) := by
  have h' : i < s.size := by simpa using h
  unfold bt
  simp only [Int.toNat_natCast]
  rw [dif_pos h']
  rfl

/-! ## Fields, as lists -/
theorem anchor60 : pantrylaw13_anchor.f 60 = some true := by decide +kernel
theorem anchor_ok (k : Nat) (hk : 60 ≤ k) : pantrylaw13_anchor.f k = some true := by
  obtain ⟨j, rfl⟩ : ∃ j, k = 60 + j := ⟨k - 60, by omega⟩
  clear hk
  induction j with
  | zero => exact anchor60
  | succ j ih => exact pantrylaw13_anchor.mono _ _ ih
theorem rd39 (l : List S49) (i : Nat) (h : i < l.length) : rd_T49 l (i : Int) = l[i] := by simp [rd_T49, h]
theorem rdB (l : List ByteArray) (i : Nat) (h : i < l.length) : rdOf ByteArray.empty l (i : Int) = l[i] := by simp [rdOf, h]
def SmallF (l : List S49) : Prop := l.length ≤ 70 ∧ ∀ f ∈ l, f.f0.size ≤ 200 ∧ f.f1.size ≤ 9100
def SmallP (l : List S49) : Prop := l.length ≤ 30 ∧ ∀ f ∈ l, f.f0.size ≤ 100 ∧ f.f1.size ≤ 300
theorem SmallP.F {l : List S49} (h : SmallP l) : SmallF l := ⟨by have := h.1; omega, fun f hf => by have := h.2 f hf; omega⟩
theorem small_l0 (l : List S49) (hl : l.length ≤ 9223372036854775807) : ∀ (d i k : Nat), i + d = l.length → d < k →
    ∃ b, pantrylaw13_small.l0 k l l (l.length : Int) (i : Int) = some b ∧ (b = true → l.length ≤ 30 ∧ ∀ f ∈ l.drop i, f.f0.size ≤ 100 ∧ f.f1.size ≤ 300) := by
  intro d
  induction d with
  | zero =>
    intro i k hi hk
    obtain ⟨k, rfl⟩ : ∃ j, k = j + 1 := ⟨k - 1, by omega⟩
    simp only [pantrylaw13_small.l0]
    rw [if_neg (by omega)]
    refine ⟨_, rfl, fun h => ?_⟩
    have := of_decide_eq_true h
    rw [List.drop_of_length_le (by omega)]
    exact ⟨by omega, fun f hf => by cases hf⟩
  | succ d ih =>
    intro i k hi hk
    obtain ⟨k, rfl⟩ : ∃ j, k = j + 1 := ⟨k - 1, by omega⟩
    have hlt : i < l.length := by omega
    simp only [pantrylaw13_small.l0]
    rw [if_pos (by omega), if_pos (by omega), if_pos (by omega), rd39 l i hlt]
    by_cases h1 : ((l[i].f0).size : Int) > 100
    · rw [if_pos h1]; exact ⟨false, rfl, fun h => by cases h⟩
    · rw [if_neg h1]
      by_cases h2 : ((l[i].f1).size : Int) > 300
      · rw [if_pos h2]; exact ⟨false, rfl, fun h => by cases h⟩
      · rw [if_neg h2, w64n (by omega) (by omega)]
        obtain ⟨b, hb, hs⟩ := ih (i + 1) k (by omega) (by omega)
        refine ⟨b, hb, fun h => ?_⟩
        obtain ⟨h3, h4⟩ := hs h
        refine ⟨h3, fun f hf => ?_⟩
        rw [List.drop_eq_getElem_cons hlt] at hf
        rcases List.mem_cons.1 hf with rfl | hf
        · exact ⟨by omega, by omega⟩
        · exact h4 f hf
theorem small_eval (l : List S49) (hl : l.length ≤ 9223372036854775807) (k : Nat) (hk : l.length < k) : ∃ b, pantrylaw13_small.f k l = some b ∧ (b = true → SmallP l) := by
  obtain ⟨b, hb, hs⟩ := small_l0 l hl l.length 0 k (by omega) hk
  exact ⟨b, hb, fun h => by simpa [SmallP] using hs h⟩

theorem rd36 (l : List S53) (i : Nat) (h : i < l.length) : rd_T53 l (i : Int) = l[i] := by simp [rd_T53, h]
def conv (f : S49) : S53 := ⟨f.f0, f.f1⟩
theorem conv_inj {f g : S49} (h : conv f = conv g) : f = g := by
  cases f; cases g
  simp only [conv, S53.mk.injEq] at h
  rw [h.1, h.2]
theorem made_l0 (l : List S49) (hl : l.length < 4398046511104) : ∀ (d i : Nat) (acc : List S53) (k : Nat), i + d = l.length → acc.length ≤ i → d < k →
    pantrymade_Fields.l0 k acc l (l.length : Int) (i : Int) = some (acc ++ (l.drop i).map conv) := by
  intro d
  induction d with
  | zero =>
    intro i acc k hi ha hk
    obtain ⟨k, rfl⟩ : ∃ j, k = j + 1 := ⟨k - 1, by omega⟩
    simp only [pantrymade_Fields.l0]
    rw [if_neg (by omega), List.drop_of_length_le (by omega)]
    simp
  | succ d ih =>
    intro i acc k hi ha hk
    obtain ⟨k, rfl⟩ : ∃ j, k = j + 1 := ⟨k - 1, by omega⟩
    have hlt : i < l.length := by omega
    simp only [pantrymade_Fields.l0]
    rw [if_pos (by omega), if_pos (by omega), if_pos (by omega), if_pos (by omega), rd39 l i hlt, w64n (by omega) (by omega)]
    have := ih (i + 1) (acc ++ [conv l[i]]) k (by omega) (by simp; omega) (by omega)
    rw [show ((i + 1 : Nat) : Int) = (i : Int) + 1 by omega] at this
    rw [List.drop_eq_getElem_cons hlt, List.map_cons, ← List.singleton_append (x := conv l[i]), ← List.append_assoc]
    exact this
theorem made_eval (l : List S49) (hl : l.length < 4398046511104) (k : Nat) (hk : l.length < k) : pantrymade_Fields.f k l = some (l.map conv) := by
  unfold pantrymade_Fields.f
  have := made_l0 l hl l.length 0 [] k (by omega) (by simp) hk
  simpa using this

/-! The reference's small letters -/
def lowI (x : Int) : Int := if x ≥ 65 ∧ x ≤ 90 then (x + 32) % 256 else x
theorem lowI_u8 (c : UInt8) : UInt8.ofNat (lowI (c.toNat : Int)).toNat = lowU c := by
  have := c.toNat_lt
  unfold lowI lowU
  by_cases h : 65 ≤ c.toNat ∧ c.toNat ≤ 90
  · rw [if_pos (by omega), if_pos h]
    congr 1
    omega
  · rw [if_neg (by omega), if_neg h]
    simp
theorem rlow_l0 (s : ByteArray) (hs : s.size ≤ 140737488351232) : ∀ (d i : Nat) (acc : List Int) (k : Nat), i + d = s.size → acc.length ≤ i → d < k →
    pantryref01_Lower.l0 k s acc (i : Int) = some (strOfNums (acc ++ (s.data.toList.drop i).map fun c => lowI (c.toNat : Int))) := by
  intro d
  induction d with
  | zero =>
    intro i acc k hi ha hk
    obtain ⟨k, rfl⟩ : ∃ j, k = j + 1 := ⟨k - 1, by omega⟩
    have hz : s.data.toList.length = s.size := by simp
    simp only [pantryref01_Lower.l0]
    rw [if_neg (by omega), List.drop_of_length_le (by omega)]
    simp
  | succ d ih =>
    intro i acc k hi ha hk
    obtain ⟨k, rfl⟩ : ∃ j, k = j + 1 := ⟨k - 1, by omega⟩
    have hz : s.data.toList.length = s.size := by simp
    have hlt : i < s.data.toList.length := by omega
    simp only [pantryref01_Lower.l0]
    rw [if_pos (by omega), if_pos (by omega), bt_at2 s i hlt, w64n (by omega) (by omega)]
    have hc := (s.data.toList[i]).toNat_lt
    rw [List.drop_eq_getElem_cons hlt, List.map_cons]
    have step : ∀ x : Int, lowI ((s.data.toList[i]).toNat : Int) = x → pantryref01_Lower.l0 k s (acc ++ [x]) ((i : Int) + 1) = some (strOfNums (acc ++ lowI ((s.data.toList[i]).toNat : Int) :: (s.data.toList.drop (i + 1)).map fun c => lowI (c.toNat : Int))) := by
      rintro x rfl
      have := ih (i + 1) (acc ++ [lowI ((s.data.toList[i]).toNat : Int)]) k (by omega) (by simp; omega) (by omega)
      rw [show ((i + 1 : Nat) : Int) = (i : Int) + 1 by omega] at this
      rw [this, List.append_assoc]
      rfl
    by_cases h1 : ((s.data.toList[i]).toNat : Int) ≥ 65
    · rw [if_pos h1]
      by_cases h2 : ((s.data.toList[i]).toNat : Int) ≤ 90
      · rw [if_pos h2, if_pos (by omega)]
        exact step _ (by unfold lowI; rw [if_pos ⟨h1, h2⟩])
      · rw [if_neg h2, if_pos (by omega)]
        exact step _ (by unfold lowI; rw [if_neg (by omega)])
    · rw [if_neg h1, if_pos (by omega)]
      exact step _ (by unfold lowI; rw [if_neg (by omega)])
theorem rlow_eval (s : ByteArray) (hs : s.size ≤ 140737488351232) (k : Nat) (hk : s.size < k) : pantryref01_Lower.f k s = some (lowB s) := by
  unfold pantryref01_Lower.f
  have := rlow_l0 s hs s.size 0 [] k (by omega) (by simp) hk
  rw [show ((0 : Nat) : Int) = 0 from rfl] at this
  rw [this]
  congr 1
  unfold strOfNums lowB lowL
  simp only [List.nil_append, List.drop_zero, List.map_map]
  congr 2
  apply List.map_congr_left
  intro c _
  exact lowI_u8 c

theorem is_eval (f v n : ByteArray) (hf : f.size ≤ 140737488351232) (hn : n.size ≤ 140737488351232) (k : Nat) (hk : f.size < k) (hk2 : n.size < k) : pantryref03_Field_Is.f k f v n = some (sameB n f) := by
  unfold pantryref03_Field_Is.f
  rw [rlow_eval f hf k hk, rlow_eval n hn k hk2]
  simp only [Option.bind_some]
  congr 1
  unfold sameB
  rw [ByteArray.toList_eq, ByteArray.toList_eq, Bool.eq_iff_iff, beq_iff_eq, beq_iff_eq]
  simp only [lowB]
  exact eq_comm

def rwout (n : ByteArray) (l : List S53) : List S53 := l.filter fun o => !sameB n o.f0
theorem rwout_l0 (n : ByteArray) (l : List S53) (hn : n.size ≤ 1000000) (hl : ∀ x ∈ l, x.f0.size ≤ 1000) (hlen : l.length ≤ 1000) : ∀ (d i : Nat) (acc : List S53) (k : Nat), i + d = l.length → acc.length ≤ i → d + 1000001 < k →
    pantryref03_Without.l0 k l n acc (i : Int) = some (acc ++ rwout n (l.drop i)) := by
  intro d
  induction d with
  | zero =>
    intro i acc k hi ha hk
    obtain ⟨k, rfl⟩ : ∃ j, k = j + 1 := ⟨k - 1, by omega⟩
    simp only [pantryref03_Without.l0]
    rw [if_neg (by omega), List.drop_of_length_le (by omega)]
    simp [rwout]
  | succ d ih =>
    intro i acc k hi ha hk
    obtain ⟨k, rfl⟩ : ∃ j, k = j + 1 := ⟨k - 1, by omega⟩
    have hlt : i < l.length := by omega
    have hx := hl _ (List.getElem_mem hlt)
    simp only [pantryref03_Without.l0]
    rw [if_pos (by omega), if_pos (by omega), rd36 l i hlt, is_eval _ _ n (by omega) (by omega) k (by omega) (by omega)]
    simp only [Option.bind_some]
    rw [List.drop_eq_getElem_cons hlt, w64n (by omega) (by omega)]
    cases hs : sameB n l[i].f0 with
    | true =>
      rw [if_pos rfl]
      have := ih (i + 1) acc k (by omega) (by omega) (by omega)
      rw [show ((i + 1 : Nat) : Int) = (i : Int) + 1 by omega] at this
      rw [this]
      unfold rwout
      rw [List.filter_cons_of_neg (by simp [hs])]
    | false =>
      rw [if_neg (by simp), if_pos (by omega)]
      have := ih (i + 1) (acc ++ [l[i]]) k (by omega) (by simp; omega) (by omega)
      rw [show ((i + 1 : Nat) : Int) = (i : Int) + 1 by omega] at this
      unfold rwout
      rw [List.filter_cons_of_pos (by simp [hs])]
      refine Eq.trans this ?_
      rw [List.append_assoc]
      rfl
theorem rwout_f (n : ByteArray) (l : List S53) (hn : n.size ≤ 1000000) (hl : ∀ x ∈ l, x.f0.size ≤ 1000) (hlen : l.length ≤ 1000) (k : Nat) (hk : 1002002 < k) : pantryref03_Without.f k l n = some (rwout n l) := by
  unfold pantryref03_Without.f
  have := rwout_l0 n l hn hl hlen l.length 0 [] k (by omega) (by simp) (by omega)
  simpa using this

/-! ## All, Get, Same -/
def allV (n : ByteArray) (l : List S49) : List ByteArray := (l.filter (isOf [n])).map (·.f1)
theorem all_l0 (n : ByteArray) (l : List S49) (hn : n.size ≤ 140737488351232) (hl : ∀ x ∈ l, x.f0.size ≤ 140737488351232) (hlen : l.length < 4398046511104) :
    ∀ (d i : Nat) (acc : List ByteArray) (k : Nat), i + d = l.length → acc.length ≤ i → d < k →
    field_List_All.l0 k n acc l (l.length : Int) (i : Int) = some (acc ++ allV n (l.drop i)) := by
  intro d
  induction d with
  | zero =>
    intro i acc k hi ha hk
    obtain ⟨k, rfl⟩ : ∃ j, k = j + 1 := ⟨k - 1, by omega⟩
    simp only [field_List_All.l0]
    rw [if_neg (by omega), List.drop_of_length_le (by omega)]
    simp [allV]
  | succ d ih =>
    intro i acc k hi ha hk
    obtain ⟨k, rfl⟩ : ∃ j, k = j + 1 := ⟨k - 1, by omega⟩
    have hlt : i < l.length := by omega
    simp only [field_List_All.l0]
    rw [if_pos (by omega), if_pos (by omega), if_pos (by omega), rd39 l i hlt]
    unfold field_Field_named.f
    rw [if_pos ⟨hl _ (List.getElem_mem hlt), by simp, by simpa using hn⟩]
    simp only [Option.bind_some]
    rw [List.drop_eq_getElem_cons hlt, w64n (by omega) (by omega)]
    by_cases hs : isOf [n] l[i] = true
    · have hs' : ([n].any fun n => sameB n l[i].f0) = true := hs
      rw [if_pos hs', if_pos (by omega)]
      have := ih (i + 1) (acc ++ [l[i].f1]) k (by omega) (by simp; omega) (by omega)
      rw [show ((i + 1 : Nat) : Int) = (i : Int) + 1 by omega] at this
      rw [this]
      unfold allV
      rw [List.filter_cons_of_pos hs, List.append_assoc]
      rfl
    · have hs' : ¬ ([n].any fun n => sameB n l[i].f0) = true := hs
      rw [if_neg hs']
      have := ih (i + 1) acc k (by omega) (by omega) (by omega)
      rw [show ((i + 1 : Nat) : Int) = (i : Int) + 1 by omega] at this
      rw [this]
      unfold allV
      rw [List.filter_cons_of_neg hs]
theorem all_eval (n : ByteArray) (l : List S49) (hn : n.size ≤ 140737488351232) (hl : ∀ x ∈ l, x.f0.size ≤ 140737488351232) (hlen : l.length < 4398046511104) (k : Nat) (hk : l.length < k) : field_List_All.f k l n = some (allV n l) := by
  unfold field_List_All.f
  have := all_l0 n l hn hl hlen l.length 0 [] k (by omega) (by simp) hk
  simpa using this
theorem inter_len (sep : List UInt8) (M : Nat) : ∀ (xs : List (List UInt8)), (∀ x ∈ xs, x.length ≤ M) → (sep.intercalate xs).length ≤ xs.length * (M + sep.length) := by
  intro xs
  induction xs with
  | nil => intro _; simp [List.intercalate]
  | cons x xs ih =>
    intro h
    have h1 := h x (by simp)
    have h2 := ih (fun y hy => h y (by simp [hy]))
    cases xs with
    | nil => simp [List.intercalate]; omega
    | cons y ys =>
      have e : sep.intercalate (x :: y :: ys) = x ++ (sep ++ sep.intercalate (y :: ys)) := by simp [List.intercalate]
      rw [e]
      simp only [List.length_append, List.length_cons, Nat.add_mul, Nat.one_mul] at *
      omega
theorem get_eval (n : ByteArray) (l : List S49) (hn : n.size ≤ 140737488351232) (hs : ∀ x ∈ l, x.f0.size ≤ 200 ∧ x.f1.size ≤ 9100) (hlen : l.length ≤ 1000000) (k : Nat) (hk : l.length < k) :
    field_List_Get.f k l n = some (⟨(joinB (allV n l) ⟨#[44, 32]⟩).toArray⟩, decide (0 < (allV n l).length)) := by
  unfold field_List_Get.f
  rw [all_eval n l hn (fun x hx => by have := (hs x hx).1; omega) (by omega) k hk]
  simp only [Option.bind_some]
  have hle : (allV n l).length ≤ l.length := by
    unfold allV
    rw [List.length_map]
    exact List.length_filter_le _ _
  have hok : joinOk (allV n l) ⟨#[44, 32]⟩ := by
    refine ⟨by omega, ?_⟩
    unfold joinB Lib.join
    have := inter_len (⟨#[44, 32]⟩ : ByteArray).data.toList 9100 ((allV n l).map (·.data.toList)) (fun x hx => by
      obtain ⟨y, hy, rfl⟩ := List.mem_map.1 hx
      unfold allV at hy
      obtain ⟨f, hf, rfl⟩ := List.mem_map.1 hy
      have := (hs f (List.mem_filter.1 hf).1).2
      simpa using this)
    rw [List.length_map] at this
    have h2 : ((⟨#[44, 32]⟩ : ByteArray).data.toList).length = 2 := rfl
    rw [h2] at this
    have : (allV n l).length * (9100 + 2) ≤ 1000000 * 9102 := Nat.mul_le_mul_right _ (by omega)
    omega
  unfold strings_Join.f
  rw [if_pos hok]
  simp only [Option.bind_some]
  congr 2
  rw [decide_eq_decide]
  omega

theorem same_l0 (a : List S53) (hb : a.length ≤ 1000000) : ∀ (d i k : Nat), i + d = a.length → d < k → pantryref03_Same.l0 k a a (i : Int) = some true := by
  intro d
  induction d with
  | zero =>
    intro i k hi hk
    obtain ⟨k, rfl⟩ : ∃ j, k = j + 1 := ⟨k - 1, by omega⟩
    simp only [pantryref03_Same.l0]
    rw [if_neg (by omega)]
  | succ d ih =>
    intro i k hi hk
    obtain ⟨k, rfl⟩ : ∃ j, k = j + 1 := ⟨k - 1, by omega⟩
    simp only [pantryref03_Same.l0]
    rw [if_pos (by omega), if_pos (by omega), if_pos (by omega), w64n (by omega) (by omega)]
    have := ih (i + 1) k (by omega) (by omega)
    rw [show ((i + 1 : Nat) : Int) = (i : Int) + 1 by omega] at this
    rw [if_neg (by simp), this]
theorem same_eval (a : List S53) (hb : a.length ≤ 1000000) (k : Nat) (hk : a.length < k) : pantryref03_Same.f k a a = some true := by
  unfold pantryref03_Same.f
  rw [if_pos rfl]
  exact same_l0 a hb a.length 0 k (by omega) hk

/-! ## FieldParts -/
theorem inter_app (sep : List UInt8) : ∀ (A B : List (List UInt8)), A ≠ [] → B ≠ [] → sep.intercalate (A ++ B) = sep.intercalate A ++ (sep ++ sep.intercalate B) := by
  intro A
  induction A with
  | nil => intro B h; exact absurd rfl h
  | cons x A ih =>
    intro B _ hB
    cases A with
    | nil =>
      cases B with
      | nil => exact absurd rfl hB
      | cons y ys => simp [List.intercalate]
    | cons z A =>
      have := ih B (by simp) hB
      have e1 : sep.intercalate (x :: z :: A) = x ++ (sep ++ sep.intercalate (z :: A)) := by simp [List.intercalate]
      have e2 : sep.intercalate (x :: z :: A ++ B) = x ++ (sep ++ sep.intercalate (z :: A ++ B)) := by simp [List.intercalate]
      rw [e1, e2, this]
      simp
def commaB : ByteArray := ⟨#[44, 32]⟩
def getB (n : ByteArray) (l : List S49) : ByteArray := ⟨(joinB (allV n l) commaB).toArray⟩
theorem getB_list (n : ByteArray) (l : List S49) : (getB n l).toList = joinB (allV n l) commaB := by
  rw [ByteArray.toList_eq]
  simp [getB]
theorem allV_app (n : ByteArray) (a b : List S49) : allV n (a ++ b) = allV n a ++ allV n b := by
  unfold allV
  rw [List.filter_append, List.map_append]
theorem joinB_app (A B : List ByteArray) (hA : A ≠ []) (hB : B ≠ []) : joinB (A ++ B) commaB = joinB A commaB ++ ([44, 32] ++ joinB B commaB) := by
  unfold joinB Lib.join
  rw [List.map_append]
  exact inter_app _ _ _ (by simpa using hA) (by simpa using hB)
theorem getB_size (n : ByteArray) (l : List S49) (h : SmallF l) : (getB n l).size ≤ 640000 := by
  have hle : (allV n l).length ≤ l.length := by
    unfold allV
    rw [List.length_map]
    exact List.length_filter_le _ _
  have := inter_len commaB.data.toList 9100 ((allV n l).map (·.data.toList)) (fun x hx => by
    obtain ⟨y, hy, rfl⟩ := List.mem_map.1 hx
    unfold allV at hy
    obtain ⟨f, hf, rfl⟩ := List.mem_map.1 hy
    have := (h.2 f (List.mem_filter.1 hf).1).2
    simpa using this)
  rw [List.length_map] at this
  have h2 : (commaB.data.toList).length = 2 := rfl
  rw [h2] at this
  have h3 : (allV n l).length * (9100 + 2) ≤ 70 * 9102 := Nat.mul_le_mul_right _ (by have := h.1; omega)
  have h4 : (getB n l).size = (joinB (allV n l) commaB).length := by
    show (joinB (allV n l) commaB).toArray.size = _
    simp
  rw [h4]
  show (List.intercalate _ _).length ≤ _
  omega

/-! ## Lists of elements -/
def endL : Bool → List UInt8 → Nat
  | _, [] => 0
  | q, [c] => if c = 34 then 1 else if q = true ∧ c = 92 then 1 else if q = false ∧ c = 44 then 0 else 1
  | q, c :: d :: l => if c = 34 then 1 + endL (!q) (d :: l) else if q = true ∧ c = 92 then 2 + endL q l else if q = false ∧ c = 44 then 0 else 1 + endL q (d :: l)
theorem endL_le : ∀ (n : Nat) (l : List UInt8) (q : Bool), l.length ≤ n → endL q l ≤ l.length := by
  intro n
  induction n with
  | zero =>
    intro l q h
    obtain rfl := List.eq_nil_of_length_eq_zero (by omega : l.length = 0)
    simp [endL]
  | succ n ih =>
    intro l q h
    match l, h with
    | [], _ => simp [endL]
    | [c], _ =>
      unfold endL
      simp only [List.length_cons, List.length_nil]
      split
      · omega
      · split
        · omega
        · split <;> omega
    | c :: d :: l, h =>
      simp only [List.length_cons] at h
      have h1 := ih (d :: l) (!q) (by simp; omega)
      have h2 := ih l q (by omega)
      have h3 := ih (d :: l) q (by simp; omega)
      unfold endL
      simp only [List.length_cons] at *
      split
      · omega
      · split
        · omega
        · split <;> omega
theorem u8_eq (c d : UInt8) : ((c.toNat : Int) = (d.toNat : Int)) ↔ c = d := by
  constructor
  · intro h
    exact UInt8.toNat_inj.1 (by omega)
  · rintro rfl; rfl
theorem end_past (s : ByteArray) (q : Bool) (i : Nat) (h : s.size ≤ i) (k : Nat) (hk : 0 < k) : sign_end.l0 k s q (i : Int) = some (s.size : Int) := by
  obtain ⟨k, rfl⟩ : ∃ j, k = j + 1 := ⟨k - 1, by omega⟩
  simp only [sign_end.l0]
  rw [if_neg (by omega)]
theorem end_l0 (s : ByteArray) (hs : s.size ≤ 1000000000) : ∀ (d i k : Nat) (q : Bool), i + d = s.size → 2 * d + 1 < k → sign_end.l0 k s q (i : Int) = some ((i + endL q (s.data.toList.drop i) : Nat) : Int) := by
  intro d
  induction d using Nat.strongRecOn with
  | _ d ih =>
    intro i k q hi hk
    have hz : s.data.toList.length = s.size := by simp
    cases d with
    | zero =>
      rw [end_past s q i (by omega) k (by omega), List.drop_of_length_le (by omega)]
      simp only [endL]
      congr 2
      omega
    | succ d =>
      obtain ⟨k, rfl⟩ : ∃ j, k = j + 1 := ⟨k - 1, by omega⟩
      have hlt : i < s.data.toList.length := by omega
      have n1 : ∀ (kk : Nat), 2 * d + 1 < kk → ∀ (q : Bool), sign_end.l0 kk s q ((i : Int) + 1) = some ((i + 1 + endL q (s.data.toList.drop (i + 1)) : Nat) : Int) := fun kk hkk q => by
        have := ih d (by omega) (i + 1) kk q (by omega) hkk
        rwa [show ((i + 1 : Nat) : Int) = (i : Int) + 1 by omega] at this
      have n2 : d = 0 ∨ 0 < d ∧ ∀ (kk : Nat), 2 * d < kk → ∀ (q : Bool), sign_end.l0 kk s q ((i : Int) + 1 + 1) = some ((i + 2 + endL q (s.data.toList.drop (i + 2)) : Nat) : Int) := by
        rcases Nat.eq_zero_or_pos d with h | h
        · exact .inl h
        · refine .inr ⟨h, fun kk hkk q => ?_⟩
          have := ih (d - 1) (by omega) (i + 2) kk q (by omega) (by omega)
          rwa [show ((i + 2 : Nat) : Int) = (i : Int) + 1 + 1 by omega] at this
      simp only [sign_end.l0]
      have hbt := bt_at2 s i hlt
      rw [if_pos (by omega), if_pos (by omega), hbt, w64n (by omega) (by omega)]
      rw [List.drop_eq_getElem_cons hlt]
      have e34 : ((s.data.toList[i]).toNat : Int) = 34 ↔ s.data.toList[i] = 34 := u8_eq _ 34
      have e92 : ((s.data.toList[i]).toNat : Int) = 92 ↔ s.data.toList[i] = 92 := u8_eq _ 92
      have e44 : ((s.data.toList[i]).toNat : Int) = 44 ↔ s.data.toList[i] = 44 := u8_eq _ 44
      generalize s.data.toList[i] = c at *
      have hstep : ∀ (q q' : Bool), endL q (c :: s.data.toList.drop (i + 1)) = 1 + endL q' (s.data.toList.drop (i + 1)) → some ((i + 1 + endL q' (s.data.toList.drop (i + 1)) : Nat) : Int) = some ((i + endL q (c :: s.data.toList.drop (i + 1)) : Nat) : Int) := by
        intro q q' h
        rw [h]
        congr 2
        omega
      by_cases h1 : c = 34
      · rw [if_pos (e34.2 h1), n1 _ (by omega)]
        refine hstep _ _ ?_
        subst h1
        cases s.data.toList.drop (i + 1) <;> simp [endL]
      · rw [if_neg (fun h => h1 (e34.1 h))]
        cases q with
        | true =>
          rw [if_pos rfl]
          obtain ⟨k, rfl⟩ : ∃ j, k = j + 1 := ⟨k - 1, by omega⟩
          simp only [sign_end.j1]
          by_cases h2 : c = 92
          · have hb : (((c.toNat : Int)) == 92) = true := beq_iff_eq.2 (e92.2 h2)
            rw [hb, if_pos rfl, w64n (x := (i : Int) + 1) (by omega) (by omega), w64n (by omega) (by omega)]
            rcases n2 with rfl | ⟨hd0, n2⟩
            · have := end_past s true (i + 2) (by omega) k (by omega)
              rw [show ((i + 2 : Nat) : Int) = (i : Int) + 1 + 1 by omega] at this
              rw [this, List.drop_of_length_le (by omega)]
              subst h2
              have e1 : endL true [(92 : UInt8)] = 1 := by decide
              rw [e1]
              exact congrArg some (by omega)
            · rw [n2 _ (by omega)]
              subst h2
              cases hd : s.data.toList.drop (i + 1) with
              | nil =>
                have := congrArg List.length hd
                rw [List.length_drop] at this
                simp only [List.length_nil] at this
                omega
              | cons x l =>
                have e2 : s.data.toList.drop (i + 2) = l := by
                  have := congrArg (List.drop 1) hd
                  rw [List.drop_drop] at this
                  simpa using this
                rw [e2]
                have e1 : endL true ((92 : UInt8) :: x :: l) = 2 + endL true l := by simp [endL]
                rw [e1]
                exact congrArg some (by omega)
          · have hb : (((c.toNat : Int)) == 92) = false := beq_eq_false_iff_ne.2 (fun h => h2 (e92.1 h))
            rw [hb, if_neg (by simp), if_pos trivial, w64n (by omega) (by omega), n1 _ (by omega)]
            refine hstep _ _ ?_
            cases s.data.toList.drop (i + 1) <;> simp [endL, h1, h2]
        | false =>
          rw [if_neg (by simp)]
          obtain ⟨k, rfl⟩ : ∃ j, k = j + 1 := ⟨k - 1, by omega⟩
          simp only [sign_end.j1]
          rw [if_neg (by simp), if_neg (by simp), if_pos (by omega), if_pos (by omega), hbt]
          by_cases h3 : c = 44
          · rw [if_pos (e44.2 h3)]
            subst h3
            cases s.data.toList.drop (i + 1) <;> simp [endL]
          · rw [if_neg (fun h => h3 (e44.1 h)), w64n (by omega) (by omega), n1 _ (by omega)]
            refine hstep _ _ ?_
            cases s.data.toList.drop (i + 1) <;> simp [endL, h1, h3]

def toB (l : List UInt8) : ByteArray := ⟨l.toArray⟩
theorem toB_list (l : List UInt8) : (toB l).data.toList = l := by simp [toB]
theorem of_list (s : ByteArray) : toB s.data.toList = s := by cases s; simp [toB]
theorem size_l (s : ByteArray) : s.size = s.data.toList.length := by simp
theorem ext_l (s : ByteArray) (a b : Nat) : (s.extract a b).data.toList = (s.data.toList.drop a).take (b - a) := by
  rw [ByteArray.data_extract, Array.toList_extract]
def trimL (l : List UInt8) : List UInt8 := Lib.trimS l [32, 9]
theorem dropWhile_len {α : Type} (p : α → Bool) (l : List α) : (l.dropWhile p).length ≤ l.length := (List.dropWhile_sublist p).length_le
theorem trimL_len (l : List UInt8) : (trimL l).length ≤ l.length := by
  unfold trimL Lib.trimS Lib.trimLeftS Lib.trimRightS
  refine Nat.le_trans (dropWhile_len _ _) ?_
  rw [List.length_reverse]
  refine Nat.le_trans (dropWhile_len _ _) ?_
  rw [List.length_reverse]
  exact Nat.le_refl _
theorem trim_eval (s : ByteArray) (hs : s.size ≤ 9223372036854775807) : sign_Trim.f s = some (toB (trimL s.data.toList)) := by
  unfold sign_Trim.f strings_Trim.f
  rw [if_pos ⟨hs, by decide, by decide⟩]
  rfl
def listL : Nat → List UInt8 → List (List UInt8)
  | 0, _ => []
  | k + 1, l => if l = [] then [] else (if trimL (l.take (endL false l)) = [] then [] else [trimL (l.take (endL false l))]) ++ listL k (l.drop (endL false l + 1))
theorem list_l0 : ∀ (n : Nat) (s : ByteArray) (acc : List ByteArray) (k : Nat), s.size ≤ n → n ≤ 1000000000 → acc.length + s.size ≤ 1000000000 → 3 * n + 10 < k →
    sign_List.l0 k s acc = some (acc ++ (listL (n + 1) s.data.toList).map toB) := by
  intro n
  induction n with
  | zero =>
    intro s acc k h0 h1 h2 hk
    obtain ⟨k, rfl⟩ : ∃ j, k = j + 1 := ⟨k - 1, by omega⟩
    have hnil : s.data.toList = [] := List.eq_nil_of_length_eq_zero (by rw [← size_l]; omega)
    simp only [sign_List.l0]
    rw [ByteArray.toList_eq, hnil, if_pos rfl]
    simp [listL]
  | succ n ih =>
    intro s acc k h0 h1 h2 hk
    obtain ⟨k, rfl⟩ : ∃ j, k = j + 1 := ⟨k - 1, by omega⟩
    simp only [sign_List.l0]
    rw [ByteArray.toList_eq]
    by_cases hnil : s.data.toList = []
    · rw [if_pos hnil, hnil]
      simp [listL]
    · rw [if_neg hnil]
      have hpos : 0 < s.size := by
        rw [size_l]
        exact List.length_pos_iff.2 hnil
      have he : sign_end.f k s = some ((endL false s.data.toList : Nat) : Int) := by
        unfold sign_end.f
        have := end_l0 s (by omega) s.size 0 k false (by omega) (by omega)
        rw [List.drop_zero, Nat.zero_add] at this
        exact this
      have hle := endL_le s.data.toList.length s.data.toList false (Nat.le_refl _)
      rw [← size_l] at hle
      rw [he]
      simp only [Option.bind_some]
      rw [listL, if_neg hnil]
      generalize hE : endL false s.data.toList = E at *
      rw [if_pos (by omega), if_pos (by omega), trim_eval _ (by rw [ByteArray.size_extract]; omega)]
      simp only [Option.bind_some]
      rw [ByteArray.toList_eq, toB_list, ext_l, Int.toNat_natCast, List.drop_zero, Nat.sub_zero]
      have hmn : mn (wrap64 ((E : Int) + 1)) (s.size : Int) = ((min (E + 1) s.size : Nat) : Int) := by
        rw [w64n (by omega) (by omega)]
        unfold mn
        split <;> omega
      rw [hmn, Int.toNat_natCast]
      have hsz : (s.extract (min (E + 1) s.size) s.size).size ≤ n := by rw [ByteArray.size_extract]; omega
      have hdl : (s.extract (min (E + 1) s.size) s.size).data.toList = s.data.toList.drop (E + 1) := by
        rw [ext_l]
        have hz := size_l s
        by_cases hc : E + 1 ≤ s.size
        · rw [Nat.min_eq_left hc]
          exact List.take_of_length_le (by rw [List.length_drop]; omega)
        · rw [List.drop_of_length_le (l := s.data.toList) (i := E + 1) (by omega), List.drop_of_length_le (by omega)]
          exact List.take_nil
      have hsz2 : (s.extract (min (E + 1) s.size) s.size).size ≤ s.size - 1 := by rw [ByteArray.size_extract]; omega
      by_cases ht : trimL (s.data.toList.take E) = []
      · rw [if_pos ht, if_pos ht, if_pos (by omega), if_pos (by omega), List.nil_append]
        rw [ih _ acc k hsz (by omega) (by omega) (by omega), hdl]
      · rw [if_neg ht, if_neg ht, if_pos (by omega), if_pos (by omega), if_pos (by omega)]
        rw [ih _ (acc ++ [toB (trimL (s.data.toList.take E))]) k hsz (by omega) (by simp; omega) (by omega), hdl]
        simp
theorem list_eval (s : ByteArray) (hs : s.size ≤ 1000000) (k : Nat) (hk : 3000100 < k) : sign_List.f k s = some ((listL (s.size + 1) s.data.toList).map toB) := by
  unfold sign_List.f
  have := list_l0 s.size s [] k (Nat.le_refl _) (by omega) (by simp; omega) (by omega)
  simpa using this
theorem listL_len : ∀ (n : Nat) (l : List UInt8), (listL n l).length ≤ n ∧ ∀ x ∈ listL n l, x.length ≤ l.length := by
  intro n
  induction n with
  | zero => intro l; simp [listL]
  | succ n ih =>
    intro l
    rw [listL]
    by_cases h : l = []
    · rw [if_pos h]; simp
    · rw [if_neg h]
      obtain ⟨i1, i2⟩ := ih (l.drop (endL false l + 1))
      have hd : (l.drop (endL false l + 1)).length ≤ l.length := by rw [List.length_drop]; omega
      by_cases ht : trimL (l.take (endL false l)) = []
      · rw [if_pos ht, List.nil_append]
        exact ⟨by omega, fun x hx => Nat.le_trans (i2 x hx) hd⟩
      · rw [if_neg ht]
        refine ⟨by simp; omega, fun x hx => ?_⟩
        rcases List.mem_append.1 hx with hx | hx
        · obtain rfl := List.mem_singleton.1 hx
          refine Nat.le_trans (trimL_len _) ?_
          rw [List.length_take]
          omega
        · exact Nat.le_trans (i2 x hx) hd
def elemsB (n : ByteArray) (l : List S49) : List ByteArray := (listL ((getB n l).size + 1) (getB n l).data.toList).map toB
theorem elems_eval (n : ByteArray) (l : List S49) (hn : n.size ≤ 1000) (h : SmallF l) (k : Nat) (hk : 3000100 < k) : field_List_Elements.f k l n = some (elemsB n l) := by
  unfold field_List_Elements.f
  have g : field_List_Get.f k l n = some (getB n l, decide (0 < (allV n l).length)) := get_eval n l (by omega) h.2 (by have := h.1; omega) k (by have := h.1; omega)
  rw [g]
  simp only [Option.bind_some]
  have := getB_size n l h
  rw [list_eval _ (by omega) k hk]
  rfl
theorem elems_ok (n : ByteArray) (l : List S49) (h : SmallF l) : (elemsB n l).length ≤ 900000 ∧ ∀ x ∈ elemsB n l, x.size ≤ 640000 := by
  have hg := getB_size n l h
  obtain ⟨i1, i2⟩ := listL_len ((getB n l).size + 1) (getB n l).data.toList
  unfold elemsB
  refine ⟨by rw [List.length_map]; omega, fun x hx => ?_⟩
  obtain ⟨y, hy, rfl⟩ := List.mem_map.1 hx
  have := i2 y hy
  rw [← size_l] at this
  rw [size_l, toB_list]
  omega

/-! Small letters of small letters -/
theorem lowU_idem (c : UInt8) : lowU (lowU c) = lowU c := by
  unfold lowU
  by_cases h : 65 ≤ c.toNat ∧ c.toNat ≤ 90
  · rw [if_pos h]
    have e : (UInt8.ofNat (c.toNat + 32)).toNat = c.toNat + 32 := by simp; omega
    rw [if_neg (by rw [e]; omega)]
  · rw [if_neg h, if_neg h]
theorem lowL_idem (l : List UInt8) : lowL (lowL l) = lowL l := by
  unfold lowL
  rw [List.map_map]
  exact List.map_congr_left fun c _ => lowU_idem c
theorem lowB_size (s : ByteArray) : (lowB s).size = s.size := by
  rw [size_l, size_l, lowB_list]
  simp [lowL]
theorem sameB_low (a b : ByteArray) : sameB (lowB a) b = sameB a b := by
  unfold sameB
  rw [lowB_list, lowL_idem]
theorem sameB_low2 (a b : ByteArray) : sameB a (lowB b) = sameB a b := by
  unfold sameB
  rw [lowB_list, lowL_idem]

/-! ## The reference's lists -/
def rtr (l : List UInt8) : List UInt8 := (l.reverse.dropWhile (([32, 9] : List UInt8).contains ·)).reverse
def blk (c : UInt8) : Bool := ([32, 9] : List UInt8).contains c
theorem blank_eval (c : UInt8) : pantryref01_blank.f (c.toNat : Int) = some (blk c) := by
  have e32 : (c.toNat : Int) = 32 ↔ c = 32 := u8_eq c 32
  have e9 : (c.toNat : Int) = 9 ↔ c = 9 := u8_eq c 9
  unfold pantryref01_blank.f blk
  by_cases h : c = 32
  · subst h; rfl
  · rw [if_neg (fun x => h (e32.1 x))]
    by_cases h2 : c = 9
    · subst h2; rfl
    · have hb : ((c.toNat : Int) == 9) = false := beq_eq_false_iff_ne.2 (fun x => h2 (e9.1 x))
      rw [hb]
      simp [h, h2]
theorem rtr_snoc (l : List UInt8) (x : UInt8) : rtr (l ++ [x]) = if blk x = true then rtr l else l ++ [x] := by
  unfold rtr blk
  rw [List.reverse_append, List.reverse_singleton, List.singleton_append, List.dropWhile_cons]
  by_cases h : ([32, 9] : List UInt8).contains x = true
  · rw [if_pos h, if_pos h]
  · rw [if_neg h, if_neg h]
    simp
theorem rtrP_cons (p : UInt8 → Bool) (l : List UInt8) (x : UInt8) : ((x :: l).reverse.dropWhile p).reverse = if (l.reverse.dropWhile p).reverse = [] ∧ p x = true then [] else x :: (l.reverse.dropWhile p).reverse := by
  rw [List.reverse_cons, List.dropWhile_append]
  cases h : l.reverse.dropWhile p with
  | nil =>
    by_cases h2 : p x = true
    · simp [h2]
    · simp [h2]
  | cons y ys => simp
theorem rtr_cons (l : List UInt8) (x : UInt8) : rtr (x :: l) = if rtr l = [] ∧ blk x = true then [] else x :: rtr l := rtrP_cons blk l x
theorem trimL_eq (l : List UInt8) : rtr (l.dropWhile blk) = trimL l := by
  show rtr (l.dropWhile blk) = (rtr l).dropWhile blk
  induction l with
  | nil => rfl
  | cons x l ih =>
    rw [rtr_cons, List.dropWhile_cons]
    by_cases h : blk x = true
    · rw [if_pos h, ih]
      by_cases h2 : rtr l = []
      · rw [if_pos ⟨h2, h⟩, h2]
      · rw [if_neg (fun x => h2 x.1), List.dropWhile_cons, if_pos h]
    · rw [if_neg h, rtr_cons, if_neg (fun x => h x.2), List.dropWhile_cons, if_neg h]
theorem take_succ (l : List UInt8) (i : Nat) (h : i < l.length) : l.take (i + 1) = l.take i ++ [l[i]] := List.take_succ_eq_append_getElem h
theorem sub_snoc (l : List UInt8) (a b : Nat) (hab : a ≤ b) (h : b < l.length) : (l.drop a).take (b + 1 - a) = (l.drop a).take (b - a) ++ [l[b]] := by
  have h1 : b - a < (l.drop a).length := by rw [List.length_drop]; omega
  have h2 := List.take_succ_eq_append_getElem h1
  rw [List.getElem_drop] at h2
  rw [show b + 1 - a = b - a + 1 by omega, h2]
  have : a + (b - a) = b := by omega
  simp only [this]
theorem ext_toB (s : ByteArray) (a b : Nat) : s.extract a b = toB ((s.data.toList.drop a).take (b - a)) := by
  rw [← ext_l, of_list]
theorem rtrim_l1 (s : ByteArray) (hs : s.size ≤ 1000000000) (a : Nat) : ∀ (d k : Nat), a + d ≤ s.size → d < k → pantryref01_Trim.l1 k s (a : Int) ((a + d : Nat) : Int) = some (toB (rtr ((s.data.toList.drop a).take d))) := by
  intro d
  induction d with
  | zero =>
    intro k hd hk
    obtain ⟨k, rfl⟩ : ∃ j, k = j + 1 := ⟨k - 1, by omega⟩
    simp only [pantryref01_Trim.l1]
    rw [if_neg (by omega), if_pos (by omega), if_pos (by omega), if_pos (by omega), ext_toB]
    simp [rtr]
  | succ d ih =>
    intro k hd hk
    obtain ⟨k, rfl⟩ : ∃ j, k = j + 1 := ⟨k - 1, by omega⟩
    have hz := size_l s
    have hlt : a + d < s.data.toList.length := by omega
    simp only [pantryref01_Trim.l1]
    have hw : wrap64 (((a + (d + 1) : Nat) : Int) - 1) = ((a + d : Nat) : Int) := by
      rw [w64n (by omega) (by omega)]
      omega
    rw [hw, if_pos (by omega), if_pos (by omega), if_pos (by omega), bt_at2 s (a + d) hlt, blank_eval]
    simp only [Option.bind_some]
    have hsn := sub_snoc s.data.toList a (a + d) (by omega) hlt
    rw [show a + d + 1 - a = d + 1 by omega, show a + d - a = d by omega] at hsn
    rw [hsn, rtr_snoc]
    by_cases h : blk s.data.toList[a + d] = true
    · rw [if_pos h, if_pos h]
      exact ih k (by omega) (by omega)
    · rw [if_neg h, if_neg h, if_pos (by omega), if_pos (by omega), if_pos (by omega), ext_toB, Int.toNat_natCast, Int.toNat_natCast, show a + (d + 1) - a = d + 1 by omega, hsn]
theorem rtrim_l0 (s : ByteArray) (hs : s.size ≤ 1000000000) : ∀ (d a k : Nat), a + d = s.size → 2 * d + 3 < k → pantryref01_Trim.l0 k s (a : Int) (s.size : Int) = some (toB (rtr ((s.data.toList.drop a).dropWhile blk))) := by
  intro d
  induction d with
  | zero =>
    intro a k hd hk
    obtain ⟨k, rfl⟩ : ∃ j, k = j + 1 + 1 := ⟨k - 2, by omega⟩
    have hz := size_l s
    simp only [pantryref01_Trim.l0]
    rw [if_neg (by omega)]
    simp only [pantryref01_Trim.j1]
    have := rtrim_l1 s hs a 0 k (by omega) (by omega)
    rw [show a + 0 = s.size by omega] at this
    rw [this, List.drop_of_length_le (by omega)]
    rfl
  | succ d ih =>
    intro a k hd hk
    obtain ⟨k, rfl⟩ : ∃ j, k = j + 1 + 1 := ⟨k - 2, by omega⟩
    have hz := size_l s
    have hlt : a < s.data.toList.length := by omega
    simp only [pantryref01_Trim.l0]
    rw [if_pos (by omega), if_pos (by omega), if_pos (by omega), bt_at2 s a hlt, blank_eval]
    simp only [Option.bind_some]
    rw [List.drop_eq_getElem_cons hlt, List.dropWhile_cons]
    by_cases h : blk s.data.toList[a] = true
    · rw [if_pos h, if_pos h, w64n (by omega) (by omega)]
      have := ih (a + 1) (k + 1) (by omega) (by omega)
      rw [show ((a + 1 : Nat) : Int) = (a : Int) + 1 by omega] at this
      exact this
    · rw [if_neg h, if_neg h]
      simp only [pantryref01_Trim.j1]
      have := rtrim_l1 s hs a (d + 1) k (by omega) (by omega)
      rw [show a + (d + 1) = s.size by omega] at this
      rw [this, ← List.drop_eq_getElem_cons hlt, List.take_of_length_le (by rw [List.length_drop]; omega)]
theorem rtrim_eval (s : ByteArray) (hs : s.size ≤ 1000000000) (k : Nat) (hk : 2 * s.size + 3 < k) : pantryref01_Trim.f k s = some (toB (trimL s.data.toList)) := by
  unfold pantryref01_Trim.f
  have := rtrim_l0 s hs s.size 0 k (by omega) hk
  rw [List.drop_zero, trimL_eq] at this
  exact this
def quotL : Bool → Bool → List UInt8 → List Bool
  | _, _, [] => []
  | q, sk, c :: l => (q || c == 34) :: (if sk = true then quotL q false l else if q = true ∧ c = 92 then quotL q true l else if c = 34 then quotL (!q) sk l else quotL q sk l)
theorem quotL_len : ∀ (l : List UInt8) (q sk : Bool), (quotL q sk l).length = l.length := by
  intro l
  induction l with
  | nil => intro q sk; rfl
  | cons c l ih =>
    intro q sk
    unfold quotL
    rw [List.length_cons, List.length_cons]
    split
    · rw [ih]
    · split
      · rw [ih]
      · split <;> rw [ih]
theorem set_take {α : Type} (l : List α) (i : Nat) (v : α) (h : i < l.length) : (l.set i v).take (i + 1) = l.take i ++ [v] := by
  have h1 : i < (l.set i v).length := by simpa using h
  rw [List.take_succ_eq_append_getElem h1, List.take_set_of_le (Nat.le_refl _)]
  simp
theorem quoted_l0 (s : ByteArray) (hs : s.size ≤ 1000000000) : ∀ (d i : Nat) (out : List Bool) (q sk : Bool) (k : Nat), i + d = s.size → out.length = s.size → 3 * d < k →
    pantryref01_quoted.l0 k s out q sk (i : Int) = some (out.take i ++ quotL q sk (s.data.toList.drop i)) := by
  intro d
  induction d with
  | zero =>
    intro i out q sk k hi ho hk
    obtain ⟨k, rfl⟩ : ∃ j, k = j + 1 := ⟨k - 1, by omega⟩
    have hz := size_l s
    simp only [pantryref01_quoted.l0]
    rw [if_neg (by omega), List.drop_of_length_le (by omega), List.take_of_length_le (by omega)]
    simp [quotL]
  | succ d ih =>
    intro i out q sk k hi ho hk
    obtain ⟨k, rfl⟩ : ∃ j, k = j + 1 + 1 + 1 := ⟨k - 3, by omega⟩
    have hz := size_l s
    have hlt : i < s.data.toList.length := by omega
    have hbt := bt_at2 s i hlt
    have e34 : ((s.data.toList[i]).toNat : Int) = 34 ↔ s.data.toList[i] = 34 := u8_eq _ 34
    have e92 : ((s.data.toList[i]).toNat : Int) = 92 ↔ s.data.toList[i] = 92 := u8_eq _ 92
    rw [List.drop_eq_getElem_cons hlt]
    have hcont : ∀ (v q' sk' : Bool) (kk : Nat), 3 * d < kk → v = (q || s.data.toList[i] == 34) → (quotL q sk (s.data.toList[i] :: s.data.toList.drop (i + 1)) = (q || s.data.toList[i] == 34) :: quotL q' sk' (s.data.toList.drop (i + 1))) →
        pantryref01_quoted.l0 kk s (out.set i v) q' sk' ((i : Int) + 1) = some (out.take i ++ quotL q sk (s.data.toList[i] :: s.data.toList.drop (i + 1))) := by
      intro v q' sk' kk hkk hv he
      have := ih (i + 1) (out.set i v) q' sk' kk (by omega) (by simpa using ho) hkk
      rw [show ((i + 1 : Nat) : Int) = (i : Int) + 1 by omega] at this
      rw [this, he, set_take _ _ _ (by omega), hv]
      simp
    have key : ∀ v : Bool, v = (q || s.data.toList[i] == 34) → pantryref01_quoted.j1 (k + 1 + 1) s (out.set i v) q sk (i : Int) = some (out.take i ++ quotL q sk (s.data.toList[i] :: s.data.toList.drop (i + 1))) := by
      intro v hv
      simp only [pantryref01_quoted.j1]
      rw [hbt, w64n (by omega) (by omega)]
      cases sk with
      | true =>
        rw [if_pos rfl]
        exact hcont v q false _ (by omega) hv (by simp [quotL])
      | false =>
        rw [if_neg (by simp)]
        have j2 : ∀ b : Bool, b = decide (q = true ∧ s.data.toList[i] = 92) → pantryref01_quoted.j2 (k + 1) s (out.set i v) q false (i : Int) b = some (out.take i ++ quotL q false (s.data.toList[i] :: s.data.toList.drop (i + 1))) := by
          intro b hb
          simp only [pantryref01_quoted.j2]
          rw [hbt, w64n (by omega) (by omega)]
          by_cases h : q = true ∧ s.data.toList[i] = 92
          · rw [hb, if_pos (decide_eq_true h)]
            exact hcont v q true _ (by omega) hv (by simp only [quotL]; rw [if_neg (by simp), if_pos h])
          · rw [hb, if_neg (by rw [decide_eq_false h]; simp), if_pos (by omega), if_pos (by omega)]
            by_cases h2 : s.data.toList[i] = 34
            · rw [if_pos (e34.2 h2)]
              exact hcont v (!q) false _ (by omega) hv (by simp only [quotL]; rw [if_neg (by simp), if_neg h, if_pos h2])
            · rw [if_neg (fun x => h2 (e34.1 x))]
              exact hcont v q false _ (by omega) hv (by simp only [quotL]; rw [if_neg (by simp), if_neg h, if_neg h2])
        cases q with
        | true =>
          rw [if_pos rfl, if_pos (by omega), if_pos (by omega)]
          refine j2 _ ?_
          by_cases h : s.data.toList[i] = 92
          · rw [decide_eq_true ⟨rfl, h⟩]
            exact beq_iff_eq.2 (e92.2 h)
          · rw [decide_eq_false (fun x => h x.2)]
            exact beq_eq_false_iff_ne.2 (fun x => h (e92.1 x))
        | false =>
          rw [if_neg (by simp)]
          exact j2 _ (by simp)
    simp only [pantryref01_quoted.l0]
    rw [if_pos (by omega), Int.toNat_natCast, hbt]
    cases q with
    | true =>
      rw [if_pos rfl, if_pos (by omega), if_pos (by omega)]
      exact key _ (by simp)
    | false =>
      rw [if_neg (by simp), if_pos (by omega), if_pos (by omega)]
      refine key _ ?_
      rw [Bool.false_or]
      by_cases h : s.data.toList[i] = 34
      · rw [beq_iff_eq.2 h]
        exact beq_iff_eq.2 (e34.2 h)
      · rw [beq_eq_false_iff_ne.2 h]
        exact beq_eq_false_iff_ne.2 (fun x => h (e34.1 x))
theorem quoted_eval (s : ByteArray) (hs : s.size ≤ 1000000000) (k : Nat) (hk : 3 * s.size < k) : pantryref01_quoted.f k s = some (quotL false false s.data.toList) := by
  unfold pantryref01_quoted.f
  rw [if_pos (by omega), if_pos (by omega)]
  have := quoted_l0 s hs s.size 0 (List.replicate s.size false) false false k (by omega) (by simp) hk
  simpa using this
def addE (cur : List UInt8) : List (List UInt8) := if trimL cur = [] then [] else [trimL cur]
def refgo : List UInt8 → List UInt8 → List Bool → List (List UInt8)
  | cur, [], _ => addE cur
  | cur, _ :: _, [] => addE cur
  | cur, c :: l, f :: fs => if c = 44 ∧ f = false then addE cur ++ refgo [] l fs else refgo (cur ++ [c]) l fs
theorem rlist_l0 (s : ByteArray) (hs : s.size ≤ 1000000000) (qs : List Bool) (hq : qs.length = s.size) : ∀ (d last i : Nat) (out : List ByteArray) (k : Nat), i + d = s.size → last ≤ i → out.length ≤ i → 2 * d + 2 * s.size + 10 < k →
    pantryref01_List.l0 k s qs out (last : Int) (i : Int) = some (out ++ (refgo ((s.data.toList.drop last).take (i - last)) (s.data.toList.drop i) (qs.drop i)).map toB) := by
  have hz := size_l s
  have trim : ∀ (last i : Nat) (k : Nat), last ≤ i → i ≤ s.size → 2 * s.size + 3 < k → pantryref01_Trim.f k (s.extract last i) = some (toB (trimL ((s.data.toList.drop last).take (i - last)))) := by
    intro last i k h1 h2 hk
    rw [rtrim_eval _ (by rw [ByteArray.size_extract]; omega) k (by rw [ByteArray.size_extract]; omega), ext_l]
  have emp : ∀ l : List UInt8, (toB l).toList = [] ↔ l = [] := fun l => by rw [ByteArray.toList_eq, toB_list]
  intro d
  induction d with
  | zero =>
    intro last i out k hi hl ho hk
    obtain ⟨k, rfl⟩ : ∃ j, k = j + 1 + 1 + 1 := ⟨k - 3, by omega⟩
    simp only [pantryref01_List.l0]
    rw [if_pos (by omega), if_neg (by omega)]
    simp only [pantryref01_List.j1]
    rw [if_neg (by simp), if_pos (by omega), if_pos (by omega), if_pos (by omega), Int.toNat_natCast, Int.toNat_natCast, trim last i _ hl (by omega) (by omega), w64n (by omega) (by omega)]
    simp only [Option.bind_some]
    rw [List.drop_of_length_le (l := s.data.toList) (i := i) (by omega)]
    simp only [refgo, addE, pantryref01_List.l0]
    by_cases h : trimL ((s.data.toList.drop last).take (i - last)) = []
    · rw [if_pos ((emp _).2 h), if_neg (by omega), if_pos h]
      simp
    · rw [if_neg (fun x => h ((emp _).1 x)), if_pos (by omega), if_neg (by omega), if_neg h]
      simp
  | succ d ih =>
    intro last i out k hi hl ho hk
    obtain ⟨k, rfl⟩ : ∃ j, k = j + 1 + 1 := ⟨k - 2, by omega⟩
    have hlt : i < s.data.toList.length := by omega
    have hlq : i < qs.length := by omega
    have e44 : ((s.data.toList[i]).toNat : Int) = 44 ↔ s.data.toList[i] = 44 := u8_eq _ 44
    rw [List.drop_eq_getElem_cons hlt, List.drop_eq_getElem_cons hlq]
    simp only [refgo]
    have goon : ¬ (s.data.toList[i] = 44 ∧ qs[i] = false) → pantryref01_List.j1 (k + 1) s qs out (last : Int) (i : Int) true = some (out ++ (if s.data.toList[i] = 44 ∧ qs[i] = false then addE ((s.data.toList.drop last).take (i - last)) ++ refgo [] (s.data.toList.drop (i + 1)) (qs.drop (i + 1)) else refgo ((s.data.toList.drop last).take (i - last) ++ [s.data.toList[i]]) (s.data.toList.drop (i + 1)) (qs.drop (i + 1))).map toB) := by
      intro h
      rw [if_neg h, ← sub_snoc _ _ _ hl hlt]
      simp only [pantryref01_List.j1]
      rw [if_pos trivial, w64n (by omega) (by omega)]
      have := ih last (i + 1) out k (by omega) (by omega) (by omega) (by omega)
      rw [show ((i + 1 : Nat) : Int) = (i : Int) + 1 by omega] at this
      exact this
    simp only [pantryref01_List.l0]
    rw [if_pos (by omega), if_pos (by omega), if_pos (by omega), bt_at2 s i hlt]
    by_cases h1 : s.data.toList[i] = 44
    · rw [if_pos (e44.2 h1), if_pos (by omega)]
      have hr : rdOf false qs (i : Int) = qs[i] := by simp [rdOf, hlq]
      rw [hr]
      cases h2 : qs[i] with
      | true =>
        have := goon (by rw [h2]; simp)
        rw [h2] at this
        exact this
      | false =>
        rw [if_pos ⟨h1, rfl⟩]
        simp only [pantryref01_List.j1]
        rw [if_neg (by simp), if_pos (by omega), if_pos (by omega), if_pos (by omega), Int.toNat_natCast, Int.toNat_natCast, trim last i _ hl (by omega) (by omega), w64n (by omega) (by omega)]
        simp only [Option.bind_some]
        have nx : ∀ o : List ByteArray, o.length ≤ i + 1 → pantryref01_List.l0 k s qs o ((i : Int) + 1) ((i : Int) + 1) = some (o ++ (refgo [] (s.data.toList.drop (i + 1)) (qs.drop (i + 1))).map toB) := by
          intro o ho
          have := ih (i + 1) (i + 1) o k (by omega) (by omega) ho (by omega)
          rw [show ((i + 1 : Nat) : Int) = (i : Int) + 1 by omega, Nat.sub_self, List.take_zero] at this
          exact this
        unfold addE
        by_cases h : trimL ((s.data.toList.drop last).take (i - last)) = []
        · rw [if_pos ((emp _).2 h), if_pos h, nx _ (by omega)]
          simp
        · rw [if_neg (fun x => h ((emp _).1 x)), if_neg h, if_pos (by omega), nx _ (by simp; omega)]
          simp
    · rw [if_neg (fun x => h1 (e44.1 x))]
      exact goon (fun x => h1 x.1)
theorem refgo_end : ∀ (n : Nat) (l : List UInt8) (q : Bool) (cur : List UInt8), l.length ≤ n →
    refgo cur l (quotL q false l) = addE (cur ++ l.take (endL q l)) ++ (if endL q l < l.length then refgo [] (l.drop (endL q l + 1)) (quotL false false (l.drop (endL q l + 1))) else []) := by
  intro n
  induction n with
  | zero =>
    intro l q cur h
    obtain rfl := List.eq_nil_of_length_eq_zero (by omega : l.length = 0)
    simp [refgo, endL, quotL]
  | succ n ih =>
    intro l q cur h
    match l, h with
    | [], _ => simp [refgo, endL, quotL]
    | [c], _ =>
      by_cases h1 : c = 34
      · subst h1
        simp [refgo, endL, quotL]
      · by_cases h2 : q = true ∧ c = 92
        · obtain ⟨rfl, rfl⟩ := h2
          simp [refgo, endL, quotL]
        · by_cases h3 : q = false ∧ c = 44
          · obtain ⟨rfl, rfl⟩ := h3
            simp [refgo, endL, quotL]
          · have h4 : ¬ (c = 44 ∧ q = false) := fun x => h3 ⟨x.2, x.1⟩
            have e : endL q [c] = 1 := by simp only [endL]; rw [if_neg h1, if_neg h2, if_neg h3]
            rw [e]
            simp only [quotL, refgo]
            rw [if_neg (by intro x; exact h4 ⟨x.1, by cases q <;> simp_all⟩)]
            simp
    | c :: d :: l, h =>
      simp only [List.length_cons] at h
      by_cases h1 : c = 34
      · subst h1
        have e : endL q (34 :: d :: l) = 1 + endL (!q) (d :: l) := by simp [endL]
        have e2 : quotL q false (34 :: d :: l) = true :: quotL (!q) false (d :: l) := by simp [quotL]
        have e3 : ∀ f fs, refgo cur ((34 : UInt8) :: d :: l) (f :: fs) = refgo (cur ++ [34]) (d :: l) fs := fun f fs => by
          rw [refgo, if_neg (fun x => absurd x.1 (by decide))]
        rw [e, e2, e3, ih (d :: l) (!q) (cur ++ [34]) (by simp; omega)]
        rw [Nat.add_comm 1]
        simp only [List.take_succ_cons, List.drop_succ_cons, List.length_cons, Nat.add_lt_add_iff_right, List.append_assoc, List.singleton_append]
      · by_cases h2 : q = true ∧ c = 92
        · obtain ⟨rfl, rfl⟩ := h2
          have e : endL true (92 :: d :: l) = endL true l + 1 + 1 := by simp [endL]; omega
          have e2 : quotL true false (92 :: d :: l) = true :: true :: quotL true false l := by simp [quotL]
          have e3 : refgo cur ((92 : UInt8) :: d :: l) (true :: true :: quotL true false l) = refgo (cur ++ [92] ++ [d]) l (quotL true false l) := by
            rw [refgo, if_neg (fun x => absurd x.1 (by decide)), refgo, if_neg (by simp)]
          rw [e, e2, e3, ih l true (cur ++ [92] ++ [d]) (by omega)]
          rw [List.take_succ_cons, List.take_succ_cons, List.drop_succ_cons, List.drop_succ_cons, List.length_cons, List.length_cons]
          simp only [Nat.add_lt_add_iff_right, List.append_assoc, List.singleton_append, List.cons_append, List.nil_append]
        · by_cases h3 : q = false ∧ c = 44
          · obtain ⟨rfl, rfl⟩ := h3
            simp [refgo, endL, quotL]
          · have e : endL q (c :: d :: l) = 1 + endL q (d :: l) := by rw [endL, if_neg h1, if_neg h2, if_neg h3]
            have e2 : quotL q false (c :: d :: l) = (q || c == 34) :: quotL q false (d :: l) := by
              rw [quotL, if_neg (by simp), if_neg h2, if_neg h1]
            have e3 : ∀ fs, refgo cur (c :: d :: l) ((q || c == 34) :: fs) = refgo (cur ++ [c]) (d :: l) fs := fun fs => by
              rw [refgo, if_neg (fun x => h3 ⟨by cases q <;> simp_all, x.1⟩)]
            rw [e, e2, e3, ih (d :: l) q (cur ++ [c]) (by simp; omega)]
            rw [Nat.add_comm 1]
            simp only [List.take_succ_cons, List.drop_succ_cons, List.length_cons, Nat.add_lt_add_iff_right, List.append_assoc, List.singleton_append]
theorem listL_ref : ∀ (n : Nat) (l : List UInt8), l.length ≤ n → listL (n + 1) l = refgo [] l (quotL false false l) := by
  intro n
  induction n with
  | zero =>
    intro l h
    obtain rfl := List.eq_nil_of_length_eq_zero (by omega : l.length = 0)
    rfl
  | succ n ih =>
    intro l h
    rw [listL, refgo_end (n + 1) l false [] h]
    by_cases hl : l = []
    · subst hl
      rfl
    · rw [if_neg hl, List.nil_append]
      have hpos : 0 < l.length := List.length_pos_iff.2 hl
      have hd : (l.drop (endL false l + 1)).length ≤ n := by rw [List.length_drop]; omega
      rw [ih _ hd]
      congr 1
      by_cases hc : endL false l < l.length
      · rw [if_pos hc]
      · rw [if_neg hc, List.drop_of_length_le (by omega)]
        rfl
theorem rlist_eval (s : ByteArray) (hs : s.size ≤ 1000000) (k : Nat) (hk : 4000100 < k) : pantryref01_List.f k s = some ((listL (s.size + 1) s.data.toList).map toB) := by
  unfold pantryref01_List.f
  rw [quoted_eval s (by omega) k (by omega)]
  simp only [Option.bind_some]
  have hz := size_l s
  have := rlist_l0 s (by omega) (quotL false false s.data.toList) (by rw [quotL_len]; omega) s.size 0 0 [] k (by omega) (by omega) (by simp) (by omega)
  rw [show ((0 : Nat) : Int) = 0 from rfl] at this
  rw [this, listL_ref _ _ (by omega)]
  simp

theorem SmallF_take {l : List S49} (h : SmallF l) (i : Nat) : SmallF (l.take i) := ⟨by rw [List.length_take]; have := h.1; omega, fun f hf => h.2 f (List.mem_of_mem_take hf)⟩
theorem rget_l0 (n : ByteArray) (hn : n.size ≤ 1000) (l : List S49) (h : SmallF l) : ∀ (d i k : Nat), i + d = l.length → d + 1001 < k →
    pantryref03_Get.l0 k (l.map conv) n (getB n (l.take i)) ((allV n (l.take i)).length : Int) (i : Int) = some (getB n l, ((allV n l).length : Int)) := by
  intro d
  induction d with
  | zero =>
    intro i k hi hk
    obtain ⟨k, rfl⟩ : ∃ j, k = j + 1 := ⟨k - 1, by omega⟩
    simp only [pantryref03_Get.l0]
    rw [if_neg (by rw [List.length_map]; omega), List.take_of_length_le (by omega)]
  | succ d ih =>
    intro i k hi hk
    obtain ⟨k, rfl⟩ : ∃ j, k = j + 1 := ⟨k - 1, by omega⟩
    have hlt : i < l.length := by omega
    have hll := h.1
    have hx := h.2 _ (List.getElem_mem hlt)
    have hgs := getB_size n _ (SmallF_take h i)
    have hal : (allV n (l.take i)).length ≤ i := by
      unfold allV
      rw [List.length_map]
      refine Nat.le_trans (List.length_filter_le _ _) ?_
      rw [List.length_take]
      omega
    simp only [pantryref03_Get.l0]
    rw [if_pos (by rw [List.length_map]; omega), if_pos (by omega), rd36 _ i (by rw [List.length_map]; omega), List.getElem_map]
    rw [is_eval _ _ n (by simp only [conv]; omega) (by omega) k (by simp only [conv]; omega) (by omega), w64n (x := (i : Int) + 1) (by omega) (by omega), w64n (x := ((allV n (l.take i)).length : Int) + 1) (by omega) (by omega)]
    simp only [Option.bind_some, conv]
    have := ih (i + 1) k (by omega) (by omega)
    rw [show ((i + 1 : Nat) : Int) = (i : Int) + 1 by omega, List.take_succ_eq_append_getElem hlt, allV_app] at this
    cases hs : sameB n l[i].f0 with
    | false =>
      have e : allV n [l[i]] = [] := by
        unfold allV
        rw [List.filter_cons_of_neg (by simp [isOf, hs])]
        rfl
      have e2 : getB n (l.take i ++ [l[i]]) = getB n (l.take i) := by
        unfold getB
        rw [allV_app, e, List.append_nil]
      rw [e, List.append_nil, e2] at this
      rw [if_neg (by simp)]
      exact this
    | true =>
      have e : allV n [l[i]] = [l[i].f1] := by
        unfold allV
        rw [List.filter_cons_of_pos (by simp [isOf, hs])]
        rfl
      rw [e, List.length_append, List.length_singleton, show (((allV n (l.take i)).length + 1 : Nat) : Int) = ((allV n (l.take i)).length : Int) + 1 by omega] at this
      have s2 : (⟨#[44, 32]⟩ : ByteArray).size = 2 := rfl
      have one : joinB [l[i].f1] commaB = l[i].f1.data.toList := by simp [joinB, Lib.join, List.intercalate]
      rw [if_pos rfl]
      by_cases hc : ((allV n (l.take i)).length : Int) > 0
      · rw [if_pos hc, if_pos (by omega)]
        refine (if_pos (by rw [ByteArray.size_append]; omega)).trans ?_
        have e2 : getB n (l.take i ++ [l[i]]) = getB n (l.take i) ++ ⟨#[44, 32]⟩ ++ l[i].f1 := by
          have : (getB n (l.take i ++ [l[i]])).data.toList = (getB n (l.take i) ++ ⟨#[44, 32]⟩ ++ l[i].f1).data.toList := by
            rw [← ByteArray.toList_eq, getB_list, allV_app, e, joinB_app _ _ (by intro h; rw [h] at hc; simp at hc) (by simp), one]
            have r0 := getB_list n (l.take i)
            rw [ByteArray.toList_eq] at r0
            rw [← r0]
            simp
          rw [← of_list (getB n (l.take i ++ [l[i]])), this, of_list]
        rw [e2] at this
        exact this
      · rw [if_neg hc]
        refine (if_pos (by omega)).trans ?_
        have h0 : allV n (l.take i) = [] := List.eq_nil_of_length_eq_zero (by omega)
        have g0 : getB n (l.take i) = ⟨#[]⟩ := by
          unfold getB
          rw [h0]
          rfl
        have e2 : getB n (l.take i ++ [l[i]]) = getB n (l.take i) ++ l[i].f1 := by
          have : (getB n (l.take i ++ [l[i]])).data.toList = (getB n (l.take i) ++ l[i].f1).data.toList := by
            rw [← ByteArray.toList_eq, getB_list, allV_app, e, h0, List.nil_append, one, g0]
            simp
          rw [← of_list (getB n (l.take i ++ [l[i]])), this, of_list]
        rw [e2] at this
        exact this
theorem rget_eval (n : ByteArray) (l : List S49) (hn : n.size ≤ 1000) (h : SmallF l) (k : Nat) (hk : 2000 < k) : pantryref03_Get.f k (l.map conv) n = some (getB n l, ((allV n l).length : Int)) := by
  unfold pantryref03_Get.f
  exact rget_l0 n hn l h l.length 0 k (by omega) (by have := h.1; omega)
theorem relems_eval (n : ByteArray) (l : List S49) (hn : n.size ≤ 1000) (h : SmallF l) (k : Nat) (hk : 4000100 < k) : pantryref03_Elements.f k (l.map conv) n = some (elemsB n l) := by
  unfold pantryref03_Elements.f
  rw [rget_eval n l hn h k (by omega)]
  simp only [Option.bind_some]
  have := getB_size n l h
  rw [rlist_eval _ (by omega) k hk]
  rfl

/-! ## Strip -/
theorem isOf_append (A B : List ByteArray) (f : S49) : isOf (A ++ B) f = (isOf A f || isOf B f) := by unfold isOf; rw [List.any_append]
theorem isOf_low (n : ByteArray) : isOf [lowB n] = isOf [n] := by
  funext o
  unfold isOf
  simp only [List.any_cons, List.any_nil, Bool.or_false]
  exact sameB_low n o.f0
theorem isOf_map_low (ns : List ByteArray) (f : S49) : isOf (ns.map lowB) f = isOf ns f := by
  unfold isOf
  rw [List.any_map]
  congr 1
  funext n
  exact sameB_low n f.f0
theorem wout_congr {A B : List ByteArray} (h : ∀ f, isOf A f = isOf B f) (l : List S49) : wout A l = wout B l := by
  unfold wout
  apply List.filter_congr
  intro x _
  rw [h]
theorem wout_len (ns : List ByteArray) (l : List S49) : (wout ns l).length ≤ l.length := List.length_filter_le _ _
theorem wout_mem {ns : List ByteArray} {l : List S49} {x : S49} (h : x ∈ wout ns l) : x ∈ l := (List.mem_filter.1 h).1
theorem wout_not {ns : List ByteArray} {l : List S49} {x : S49} (h : x ∈ wout ns l) : isOf ns x = false := by
  have := (List.mem_filter.1 h).2
  simpa using this
theorem wout_all {ns : List ByteArray} {l : List S49} (h : ∀ x ∈ l, isOf ns x = false) : wout ns l = l := List.filter_eq_self.2 fun x hx => by rw [h x hx]; rfl
theorem wout_wout (A B : List ByteArray) (l : List S49) : wout B (wout A l) = wout (A ++ B) l := by
  unfold wout
  rw [List.filter_filter]
  apply List.filter_congr
  intro x _
  rw [isOf_append, Bool.not_or, Bool.and_comm]
theorem SmallF_wout {l : List S49} (h : SmallF l) (ns : List ByteArray) : SmallF (wout ns l) := ⟨by have := wout_len ns l; have := h.1; omega, fun f hf => h.2 f (wout_mem hf)⟩

theorem rwout_conv (n : ByteArray) (l : List S49) : rwout n (l.map conv) = (l.filter fun o => !sameB n o.f0).map conv := by
  unfold rwout
  rw [List.filter_map]
  rfl
theorem wout_snoc (ns : List ByteArray) (n : ByteArray) (l : List S49) : (wout ns l).filter (fun o => !sameB n o.f0) = wout (ns ++ [n]) l := by
  unfold wout
  rw [List.filter_filter]
  apply List.filter_congr
  intro x _
  unfold isOf
  simp only [List.any_append, List.any_cons, List.any_nil, Bool.or_false, Bool.not_or]
  exact Bool.and_comm _ _
theorem rwone (n : ByteArray) (l : List S49) : rwout n (l.map conv) = (wout [n] l).map conv := by
  rw [rwout_conv]
  congr 1
  unfold wout
  apply List.filter_congr
  intro x _
  simp [isOf]
theorem rwone_f (n : ByteArray) (l : List S49) (hn : n.size ≤ 1000000) (h : SmallF l) (k : Nat) (hk : 1002002 < k) : pantryref03_Without.f k (l.map conv) n = some ((wout [n] l).map conv) := by
  rw [rwout_f n (l.map conv) hn (fun x hx => by
    obtain ⟨f, hf, rfl⟩ := List.mem_map.1 hx
    have := (h.2 f hf).1
    simp only [conv]
    omega) (by rw [List.length_map]; have := h.1; omega) k hk, rwone]
theorem rwithout_l0 (l : List S49) (h : SmallF l) (ns : List ByteArray) (hn : ∀ n ∈ ns, n.size ≤ 1000000) (hns : ns.length ≤ 1000000) :
    ∀ (d i k : Nat), i + d = ns.length → d + 2000001 < k → pantryref13_without.l0 k ((wout (ns.take i) l).map conv) ns (i : Int) = some ((wout ns l).map conv) := by
  intro d
  induction d with
  | zero =>
    intro i k hi hk
    obtain ⟨k, rfl⟩ : ∃ j, k = j + 1 := ⟨k - 1, by omega⟩
    simp only [pantryref13_without.l0]
    rw [if_neg (by omega), List.take_of_length_le (by omega)]
  | succ d ih =>
    intro i k hi hk
    obtain ⟨k, rfl⟩ : ∃ j, k = j + 1 := ⟨k - 1, by omega⟩
    have hlt : i < ns.length := by omega
    simp only [pantryref13_without.l0]
    rw [if_pos (by omega), if_pos (by omega), rdB ns i hlt, rwone_f _ _ (hn _ (List.getElem_mem hlt)) (SmallF_wout h _) k (by omega), w64n (by omega) (by omega)]
    simp only [Option.bind_some]
    rw [wout_wout]
    have := ih (i + 1) k (by omega) (by omega)
    rw [show ((i + 1 : Nat) : Int) = (i : Int) + 1 by omega, List.take_succ_eq_append_getElem hlt] at this
    exact this
theorem rwithout_eval (l : List S49) (h : SmallF l) (ns : List ByteArray) (hn : ∀ n ∈ ns, n.size ≤ 1000000) (hns : ns.length ≤ 1000000) (k : Nat) (hk : 3100000 < k) : pantryref13_without.f k (l.map conv) ns = some ((wout ns l).map conv) := by
  unfold pantryref13_without.f
  have := rwithout_l0 l h ns hn hns ns.length 0 k (by omega) (by omega)
  have hw : wout [] l = l := wout_all (fun x _ => rfl)
  rw [List.take_zero, hw] at this
  exact this

def connU : ByteArray := ⟨#[67, 111, 110, 110, 101, 99, 116, 105, 111, 110]⟩
def connL : ByteArray := ⟨#[99, 111, 110, 110, 101, 99, 116, 105, 111, 110]⟩
def fixU : List ByteArray := [⟨#[67, 111, 110, 110, 101, 99, 116, 105, 111, 110]⟩, ⟨#[75, 101, 101, 112, 45, 65, 108, 105, 118, 101]⟩, ⟨#[80, 114, 111, 120, 121, 45, 65, 117, 116, 104, 101, 110, 116, 105, 99, 97, 116, 101]⟩, ⟨#[80, 114, 111, 120, 121, 45, 65, 117, 116, 104, 111, 114, 105, 122, 97, 116, 105, 111, 110]⟩, ⟨#[80, 114, 111, 120, 121, 45, 67, 111, 110, 110, 101, 99, 116, 105, 111, 110]⟩, ⟨#[84, 69]⟩, ⟨#[84, 114, 97, 105, 108, 101, 114]⟩, ⟨#[84, 114, 97, 110, 115, 102, 101, 114, 45, 69, 110, 99, 111, 100, 105, 110, 103]⟩, ⟨#[85, 112, 103, 114, 97, 100, 101]⟩, ⟨#[67, 111, 110, 116, 101, 110, 116, 45, 76, 101, 110, 103, 116, 104]⟩]
def fixL : List ByteArray := [⟨#[99, 111, 110, 110, 101, 99, 116, 105, 111, 110]⟩, ⟨#[107, 101, 101, 112, 45, 97, 108, 105, 118, 101]⟩, ⟨#[112, 114, 111, 120, 121, 45, 97, 117, 116, 104, 101, 110, 116, 105, 99, 97, 116, 101]⟩, ⟨#[112, 114, 111, 120, 121, 45, 97, 117, 116, 104, 111, 114, 105, 122, 97, 116, 105, 111, 110]⟩, ⟨#[112, 114, 111, 120, 121, 45, 99, 111, 110, 110, 101, 99, 116, 105, 111, 110]⟩, ⟨#[116, 101]⟩, ⟨#[116, 114, 97, 105, 108, 101, 114]⟩, ⟨#[116, 114, 97, 110, 115, 102, 101, 114, 45, 101, 110, 99, 111, 100, 105, 110, 103]⟩, ⟨#[117, 112, 103, 114, 97, 100, 101]⟩, ⟨#[99, 111, 110, 116, 101, 110, 116, 45, 108, 101, 110, 103, 116, 104]⟩]
def viaU : ByteArray := ⟨#[86, 105, 97]⟩
def viaL : ByteArray := ⟨#[118, 105, 97]⟩
def nameB : ByteArray := ⟨#[49, 46, 49, 32, 112, 97, 110, 116, 114, 121]⟩
theorem fix_sizes : ∀ n ∈ fixU, n.size ≤ 100 := by decide +kernel
def stripN (l : List S49) : List ByteArray := elemsB connU l ++ fixU
def stripV (l : List S49) : List S49 := wout (stripN l) l
theorem stripN_ok (l : List S49) (h : SmallF l) : (stripN l).length ≤ 900010 ∧ ∀ n ∈ stripN l, n.size ≤ 640000 := by
  obtain ⟨e1, e2⟩ := elems_ok connU l h
  unfold stripN
  have : fixU.length = 10 := rfl
  refine ⟨by rw [List.length_append]; omega, fun n hn => ?_⟩
  rcases List.mem_append.1 hn with hn | hn
  · exact e2 n hn
  · have := fix_sizes n hn
    omega
theorem strip_eval (l : List S49) (h : SmallF l) (k : Nat) (hk : 3000100 < k) : pass_Strip.f k l = some (stripV l) := by
  have e : pass_Strip.f k l = ((field_List_Elements.f k l connU).bind fun t => if t.length + 10 < 8796093022208 then ((field_List_Without.f k l (t ++ fixU)).bind fun x => some x) else none) := rfl
  rw [e, elems_eval connU l (by decide) h k hk]
  simp only [Option.bind_some]
  obtain ⟨e1, e2⟩ := elems_ok connU l h
  obtain ⟨n1, n2⟩ := stripN_ok l h
  have hl := h.1
  rw [if_pos (by omega)]
  have w := wout_f (stripN l) l (by omega) (fun x hx => by have := n2 x hx; omega) (fun x hx => by have := (h.2 x hx).1; omega) (by omega) k (by omega)
  have w2 : field_List_Without.f k l (elemsB connU l ++ fixU) = some (stripV l) := w
  rw [w2]
  rfl
theorem SmallF_strip {l : List S49} (h : SmallF l) : SmallF (stripV l) := SmallF_wout h _
/-- A name that goes no further isn't there. -/
theorem strip_no (l : List S49) (n m : ByteArray) (hm : m ∈ stripN l) (hs : lowB n = lowB m) : allV n (stripV l) = [] := by
  unfold allV
  rw [List.map_eq_nil_iff, List.filter_eq_nil_iff]
  intro f hf
  have h1 := wout_not hf
  intro hc
  rw [← isOf_low, hs, isOf_low] at hc
  have hc2 : sameB m f.f0 = true := by simpa [isOf] using hc
  have : isOf (stripN l) f = true := List.any_eq_true.2 ⟨m, hm, hc2⟩
  rw [this] at h1
  cases h1
theorem conn_in (l : List S49) : connU ∈ stripN l := List.mem_append.2 (.inr (List.mem_cons_self ..))
theorem strip_strip (l : List S49) : stripV (stripV l) = stripV l := by
  have h0 : allV connU (stripV l) = [] := strip_no l connU connU (conn_in l) rfl
  have h1 : elemsB connU (stripV l) = [] := by
    unfold elemsB getB
    rw [h0]
    rfl
  have h2 : stripV (stripV l) = wout fixU (stripV l) := by
    have : stripN (stripV l) = fixU := by unfold stripN; rw [h1, List.nil_append]
    show wout (stripN (stripV l)) (stripV l) = _
    rw [this]
  rw [h2]
  refine wout_all (fun x hx => ?_)
  have := wout_not hx
  unfold stripN at this
  rw [isOf_append, Bool.or_eq_false_iff] at this
  exact this.2
def markV (l : List S49) : ByteArray := (if 0 < (allV viaU l).length then getB viaU l ++ commaB else getB viaU l) ++ nameB
def onwardV (l : List S49) : List S49 := wout [viaU] (stripV l) ++ [⟨viaU, markV l⟩]
theorem mark_size (l : List S49) (h : SmallF l) : (markV l).size ≤ 640012 := by
  have := getB_size viaU l h
  have s1 : commaB.size = 2 := rfl
  have s2 : nameB.size = 10 := rfl
  unfold markV
  rw [ByteArray.size_append]
  split
  · rw [ByteArray.size_append]; omega
  · omega
theorem onward_eval (l : List S49) (h : SmallF l) (k : Nat) (hk : 3000100 < k) : pass_Onward.f k l = some (onwardV l) := by
  have e : pass_Onward.f k l = ((field_List_Get.f k l viaU).bind fun bt => (if bt.2 = true then (if bt.1.size + 2 ≤ 9223372036854775807 then ((pass_Strip.f k l).bind fun t => ((field_List_Without.f k t [viaU]).bind fun u => (if (bt.1 ++ commaB).size + 10 ≤ 9223372036854775807 then (if u.length < 4398046511104 then some (u ++ [⟨viaU, (bt.1 ++ commaB) ++ nameB⟩]) else none) else none))) else none) else ((pass_Strip.f k l).bind fun t => ((field_List_Without.f k t [viaU]).bind fun u => (if bt.1.size + 10 ≤ 9223372036854775807 then (if u.length < 4398046511104 then some (u ++ [⟨viaU, bt.1 ++ nameB⟩]) else none) else none))))) := rfl
  have hl := h.1
  have g : field_List_Get.f k l viaU = some (getB viaU l, decide (0 < (allV viaU l).length)) := get_eval viaU l (by decide) h.2 (by omega) k (by omega)
  have hs := SmallF_strip h
  have hsl := hs.1
  have w : field_List_Without.f k (stripV l) [viaU] = some (wout [viaU] (stripV l)) := wout_f [viaU] (stripV l) (by decide) (by decide) (fun x hx => by have := (hs.2 x hx).1; omega) (by omega) k (by omega)
  have hw := wout_len [viaU] (stripV l)
  have hg := getB_size viaU l h
  have s1 : commaB.size = 2 := rfl
  rw [e, g]
  simp only [Option.bind_some]
  rw [strip_eval l h k hk]
  simp only [Option.bind_some]
  rw [w]
  simp only [Option.bind_some]
  unfold onwardV markV
  by_cases hc : 0 < (allV viaU l).length
  · rw [if_pos (decide_eq_true hc), if_pos (by omega), if_pos (by rw [ByteArray.size_append]; omega), if_pos (by omega), if_pos hc]
  · rw [if_neg (by rw [decide_eq_false hc]; simp), if_pos (by omega), if_pos (by omega), if_neg hc]

theorem conn_low : connL = lowB connU := by decide +kernel
theorem via_low : viaL = lowB viaU := by decide +kernel
theorem fix_low : fixL = fixU.map lowB := by decide +kernel
theorem fixL_sizes : ∀ n ∈ fixL, n.size ≤ 100 := by decide +kernel
theorem allV_low (n : ByteArray) (l : List S49) : allV (lowB n) l = allV n l := by unfold allV; rw [isOf_low]
theorem getB_low (n : ByteArray) (l : List S49) : getB (lowB n) l = getB n l := by unfold getB; rw [allV_low]
theorem elemsB_low (n : ByteArray) (l : List S49) : elemsB (lowB n) l = elemsB n l := by unfold elemsB; rw [getB_low]
theorem rstrip_eval (l : List S49) (h : SmallF l) (k : Nat) (hk : 4000100 < k) : pantryref13_Strip.f k (l.map conv) = some ((stripV l).map conv) := by
  have e : pantryref13_Strip.f k (l.map conv) = ((pantryref03_Elements.f k (l.map conv) connL).bind fun t => (pantryref13_without.f k (l.map conv) t).bind fun u => (pantryref13_without.f k u fixL).bind fun x => some x) := rfl
  obtain ⟨e1, e2⟩ := elems_ok connU l h
  rw [e, relems_eval connL l (by decide) h k hk, conn_low, elemsB_low]
  simp only [Option.bind_some]
  rw [rwithout_eval l h _ (fun n hn => by have := e2 n hn; omega) (by omega) k (by omega)]
  simp only [Option.bind_some]
  rw [rwithout_eval _ (SmallF_wout h _) fixL (fun n hn => by have := fixL_sizes n hn; omega) (by decide) k (by omega)]
  simp only [Option.bind_some]
  rw [wout_wout]
  congr 2
  exact wout_congr (fun f => by unfold stripN; rw [isOf_append, isOf_append, fix_low, isOf_map_low]) l
theorem psame_eval (l : List S49) (hl : l.length ≤ 1000) (k : Nat) (hk : 2000 < k) : pantrylaw13_same.f k l (l.map conv) = some true := by
  unfold pantrylaw13_same.f
  rw [made_eval l (by omega) k (by omega)]
  simp only [Option.bind_some]
  rw [same_eval _ (by rw [List.length_map]; omega) k (by rw [List.length_map]; omega)]
  rfl

theorem getB_small (n : ByteArray) (l : List S49) (h : SmallP l) : (getB n l).size ≤ 9060 := by
  have hle : (allV n l).length ≤ l.length := by
    unfold allV
    rw [List.length_map]
    exact List.length_filter_le _ _
  have := inter_len commaB.data.toList 300 ((allV n l).map (·.data.toList)) (fun x hx => by
    obtain ⟨y, hy, rfl⟩ := List.mem_map.1 hx
    unfold allV at hy
    obtain ⟨f, hf, rfl⟩ := List.mem_map.1 hy
    have := (h.2 f (List.mem_filter.1 hf).1).2
    simpa using this)
  rw [List.length_map] at this
  have h2 : (commaB.data.toList).length = 2 := rfl
  rw [h2] at this
  have h3 : (allV n l).length * (300 + 2) ≤ 30 * 302 := Nat.mul_le_mul_right _ (by have := h.1; omega)
  have h4 : (getB n l).size = (joinB (allV n l) commaB).length := by
    show (joinB (allV n l) commaB).toArray.size = _
    simp
  rw [h4]
  show (List.intercalate _ _).length ≤ _
  omega

/-! ## With -/
theorem with_ok (l0 l1 : List S49) (s0 : SmallF l0) (s1 : SmallF l1) : withOk l0 l1 :=
  ⟨by have := s0.1; have := s1.1; omega, fun x h => by have := (s0.2 x h).1; omega, fun x h => by have := (s1.2 x h).1; omega⟩
theorem withAll_len (l1 : List S49) : ∀ l0 : List S49, (withAll l0 l1).length ≤ l0.length + l1.length := by
  induction l1 with
  | nil => intro l0; simp [withAll]
  | cons f l1 ih =>
    intro l0
    have h1 := withOne_len l0 f
    have h2 := ih (withOne l0 f)
    have e : withAll l0 (f :: l1) = withAll (withOne l0 f) l1 := rfl
    rw [e, List.length_cons]
    omega
theorem withAll_mem (l1 : List S49) : ∀ (l0 : List S49) (x : S49), x ∈ withAll l0 l1 → x ∈ l0 ∨ x ∈ l1 := by
  induction l1 with
  | nil => intro l0 x h; exact .inl h
  | cons f l1 ih =>
    intro l0 x h
    have e : withAll l0 (f :: l1) = withAll (withOne l0 f) l1 := rfl
    rw [e] at h
    rcases ih _ _ h with h | h
    · rcases withOne_mem _ _ _ h with h | rfl
      · exact .inl h
      · exact .inr (by simp)
    · exact .inr (by simp [h])

theorem sameB_refl (a : ByteArray) : sameB a a = true := by unfold sameB; simp
theorem sameB_comm (a b : ByteArray) : sameB a b = sameB b a := by
  unfold sameB
  rw [Bool.eq_iff_iff, beq_iff_eq, beq_iff_eq]
  exact eq_comm
theorem sameB_trans {a b c : ByteArray} (h1 : sameB a b = true) (h2 : sameB b c = true) : sameB a c = true := by
  unfold sameB at *
  rw [beq_iff_eq] at *
  rw [h1, h2]
def goW (f : S49) : Bool → List S49 → List S49
  | dn, [] => if dn = true then [] else [f]
  | dn, x :: l => if sameB f.f0 x.f0 = true then (if dn = true then goW f true l else f :: goW f true l) else x :: goW f dn l
theorem goW_true (f : S49) (l : List S49) : goW f true l = wout [f.f0] l := by
  induction l with
  | nil => rfl
  | cons x l ih =>
    unfold goW wout
    by_cases h : sameB f.f0 x.f0 = true
    · rw [if_pos h, if_pos rfl, List.filter_cons_of_neg (by simp [isOf, h]), ih]
      rfl
    · rw [if_neg h, List.filter_cons_of_pos (by simp [isOf, h]), ih]
      rfl
theorem goW_one (f : S49) (l : List S49) : goW f false l = withOne l f := by
  induction l with
  | nil => rfl
  | cons x l ih =>
    unfold goW
    by_cases h : sameB f.f0 x.f0 = true
    · rw [if_pos h, if_neg (by simp), goW_true]
      unfold withOne
      rw [if_pos (by simp [h]), List.findIdx_cons, h]
      rfl
    · rw [if_neg h, ih]
      have h' : sameB f.f0 x.f0 = false := by simpa using h
      unfold withOne
      rw [List.any_cons, h', Bool.false_or, List.findIdx_cons, h']
      by_cases ha : (l.any fun o => sameB f.f0 o.f0) = true
      · rw [if_pos ha, if_pos ha]
        rfl
      · rw [if_neg ha, if_neg ha]
        rfl

theorem rwith_l0 (f : S49) (hf : f.f0.size ≤ 1000) (l : List S49) (hl : ∀ x ∈ l, x.f0.size ≤ 1000) (hlen : l.length ≤ 1000) : ∀ (d i : Nat) (acc : List S53) (dn : Bool) (k : Nat), i + d = l.length → acc.length ≤ i → d + 1001 < k →
    pantryref03_With.l0 k (l.map conv) acc dn (i : Int) f.f0 f.f1 = some (acc ++ (goW f dn (l.drop i)).map conv) := by
  intro d
  induction d with
  | zero =>
    intro i acc dn k hi ha hk
    obtain ⟨k, rfl⟩ : ∃ j, k = j + 1 := ⟨k - 1, by omega⟩
    simp only [pantryref03_With.l0]
    rw [if_neg (by rw [List.length_map]; omega), List.drop_of_length_le (by omega)]
    cases dn with
    | true => rw [if_pos rfl]; simp [goW]
    | false => rw [if_neg (by simp), if_pos (by omega)]; rfl
  | succ d ih =>
    intro i acc dn k hi ha hk
    obtain ⟨k, rfl⟩ : ∃ j, k = j + 1 := ⟨k - 1, by omega⟩
    have hlt : i < l.length := by omega
    have hx := hl _ (List.getElem_mem hlt)
    have nx : ∀ (acc : List S53) (dn : Bool), acc.length ≤ i + 1 → pantryref03_With.l0 k (l.map conv) acc dn ((i : Int) + 1) f.f0 f.f1 = some (acc ++ (goW f dn (l.drop (i + 1))).map conv) := fun acc dn h => by
      have := ih (i + 1) acc dn k (by omega) h (by omega)
      rwa [show ((i + 1 : Nat) : Int) = (i : Int) + 1 by omega] at this
    have e : pantryref03_Field_Is.f k (conv l[i]).f0 (conv l[i]).f1 f.f0 = some (sameB f.f0 l[i].f0) := is_eval _ _ f.f0 (by simp only [conv]; omega) (by omega) k (by simp only [conv]; omega) (by omega)
    simp only [pantryref03_With.l0]
    rw [if_pos (by rw [List.length_map]; omega), if_pos (by omega), rd36 _ i (by rw [List.length_map]; omega), List.getElem_map, e, List.drop_eq_getElem_cons hlt, w64n (by omega) (by omega)]
    simp only [Option.bind_some]
    rw [goW]
    cases hs : sameB f.f0 l[i].f0 with
    | true =>
      rw [if_pos rfl, if_pos rfl]
      cases dn with
      | true => rw [if_pos rfl, if_pos rfl, nx _ _ (by omega)]
      | false =>
        rw [if_neg (by simp), if_pos (by omega), if_neg (by simp), nx _ _ (by simp; omega), List.append_assoc]
        rfl
    | false =>
      rw [if_neg (by simp), if_pos (by omega), if_neg (by simp), nx _ _ (by simp; omega), List.append_assoc]
      rfl
theorem rwith_eval (f : S49) (hf : f.f0.size ≤ 1000) (l : List S49) (hl : ∀ x ∈ l, x.f0.size ≤ 1000) (hlen : l.length ≤ 1000) (k : Nat) (hk : 3000 < k) : pantryref03_With.f k (l.map conv) f.f0 f.f1 = some ((withOne l f).map conv) := by
  unfold pantryref03_With.f
  have := rwith_l0 f hf l hl hlen l.length 0 [] false k (by omega) (by simp) (by omega)
  rw [List.drop_zero, goW_one] at this
  exact this
theorem filt_set (f : S49) (l : List S49) : ∀ dn, (goW f dn l).filter (isOf [f.f0]) = if dn = true then [] else [f] := by
  have hf : isOf [f.f0] f = true := by simp [isOf, sameB_refl]
  induction l with
  | nil =>
    intro dn
    cases dn with
    | true => rfl
    | false => rw [goW, if_neg (by simp), List.filter_cons_of_pos hf]; rfl
  | cons x l ih =>
    intro dn
    rw [goW]
    by_cases h : sameB f.f0 x.f0 = true
    · rw [if_pos h]
      cases dn with
      | true => rw [if_pos rfl, ih true]
      | false => rw [if_neg (by simp), List.filter_cons_of_pos hf, ih true]; rfl
    · rw [if_neg h, List.filter_cons_of_neg (by simp [isOf, h]), ih dn]
theorem filt_other (f g : S49) (hg : sameB f.f0 g.f0 = false) (l : List S49) : ∀ dn, (goW g dn l).filter (isOf [f.f0]) = l.filter (isOf [f.f0]) := by
  have hf : ¬ isOf [f.f0] g = true := by simp [isOf, hg]
  induction l with
  | nil =>
    intro dn
    cases dn with
    | true => rfl
    | false => rw [goW, if_neg (by simp), List.filter_cons_of_neg hf]
  | cons x l ih =>
    intro dn
    rw [goW]
    by_cases h : sameB g.f0 x.f0 = true
    · have hx : ¬ isOf [f.f0] x = true := by
        simp only [isOf, List.any_cons, List.any_nil, Bool.or_false]
        intro hc
        have := sameB_trans hc (by rw [sameB_comm]; exact h)
        rw [this] at hg
        cases hg
      rw [if_pos h, List.filter_cons_of_neg hx]
      cases dn with
      | true => rw [if_pos rfl, ih true]
      | false => rw [if_neg (by simp), List.filter_cons_of_neg hf, ih true]
    · rw [if_neg h]
      by_cases hx : isOf [f.f0] x = true
      · rw [List.filter_cons_of_pos hx, List.filter_cons_of_pos hx, ih dn]
      · rw [List.filter_cons_of_neg hx, List.filter_cons_of_neg hx, ih dn]
theorem filt_all (f : S49) : ∀ (B l : List S49), (∀ g ∈ B, sameB f.f0 g.f0 = false) → (withAll l B).filter (isOf [f.f0]) = l.filter (isOf [f.f0]) := by
  intro B
  induction B with
  | nil => intro l _; rfl
  | cons g B ih =>
    intro l h
    have e : withAll l (g :: B) = withAll (withOne l g) B := rfl
    rw [e, ih _ (fun x hx => h x (by simp [hx])), ← goW_one, filt_other f g (h g (by simp))]
theorem filt_last (l more : List S49) (i : Nat) (h : i < more.length) (hl : ∀ g ∈ more.drop (i + 1), sameB more[i].f0 g.f0 = false) : allV more[i].f0 (withAll l more) = [more[i].f1] := by
  unfold allV
  have e : withAll l more = withAll (withOne (withAll l (more.take i)) more[i]) (more.drop (i + 1)) := by
    have : more = more.take i ++ (more[i] :: more.drop (i + 1)) := by rw [← List.drop_eq_getElem_cons h, List.take_append_drop]
    have h2 : withAll l (more.take i ++ (more[i] :: more.drop (i + 1))) = withAll (withOne (withAll l (more.take i)) more[i]) (more.drop (i + 1)) := by
      unfold withAll
      rw [List.foldl_append]
      rfl
    exact (congrArg (withAll l) this).trans h2
  rw [e, filt_all _ _ _ hl, ← goW_one, filt_set, if_neg (by simp)]
  rfl

/-! ## Merge -/
def mergU : List ByteArray := [⟨#[86, 105, 97]⟩, ⟨#[67, 111, 110, 116, 101, 110, 116, 45, 69, 110, 99, 111, 100, 105, 110, 103]⟩, ⟨#[67, 111, 110, 116, 101, 110, 116, 45, 84, 121, 112, 101]⟩, ⟨#[67, 111, 110, 116, 101, 110, 116, 45, 82, 97, 110, 103, 101]⟩]
def mergL : List ByteArray := [⟨#[118, 105, 97]⟩, ⟨#[99, 111, 110, 116, 101, 110, 116, 45, 101, 110, 99, 111, 100, 105, 110, 103]⟩, ⟨#[99, 111, 110, 116, 101, 110, 116, 45, 116, 121, 112, 101]⟩, ⟨#[99, 111, 110, 116, 101, 110, 116, 45, 114, 97, 110, 103, 101]⟩]
theorem merg_low : mergL = mergU.map lowB := by decide +kernel
theorem merg_sizes : ∀ n ∈ mergU, n.size ≤ 100 := by decide +kernel
theorem mergL_sizes : ∀ n ∈ mergL, n.size ≤ 100 := by decide +kernel
def saidV (l : List S49) : List S49 := wout mergU (stripV l)
def moreFrom (S : List S49) : List S49 → List S49 → List S49
  | _, [] => []
  | pre, x :: l => (if (pre.all fun o => !sameB o.f0 x.f0) = true then [⟨x.f0, getB x.f0 S⟩] else []) ++ moreFrom S (pre ++ [x]) l
def moreV (l : List S49) : List S49 := moreFrom (saidV l) [] (saidV l)
theorem more_len (S : List S49) : ∀ (l pre : List S49), (moreFrom S pre l).length ≤ l.length := by
  intro l
  induction l with
  | nil => intro pre; simp [moreFrom]
  | cons x l ih =>
    intro pre
    have := ih (pre ++ [x])
    rw [moreFrom, List.length_append, List.length_cons]
    split <;> simp <;> omega
theorem more_mem (S : List S49) : ∀ (l pre : List S49), ∀ g ∈ moreFrom S pre l, ∃ x ∈ l, g = ⟨x.f0, getB x.f0 S⟩ := by
  intro l
  induction l with
  | nil => intro pre g hg; simp [moreFrom] at hg
  | cons x l ih =>
    intro pre g hg
    rw [moreFrom] at hg
    rcases List.mem_append.1 hg with hg | hg
    · split at hg
      · exact ⟨x, by simp, List.mem_singleton.1 hg⟩
      · simp at hg
    · obtain ⟨y, hy, e⟩ := ih _ g hg
      exact ⟨y, by simp [hy], e⟩
theorem more_apart (S : List S49) : ∀ (l pre : List S49), (moreFrom S pre l).Pairwise (fun a b => sameB a.f0 b.f0 = false) ∧ ∀ g ∈ moreFrom S pre l, ∀ p ∈ pre, sameB p.f0 g.f0 = false := by
  intro l
  induction l with
  | nil => intro pre; simp [moreFrom]
  | cons x l ih =>
    intro pre
    obtain ⟨i1, i2⟩ := ih (pre ++ [x])
    rw [moreFrom]
    by_cases h : (pre.all fun o => !sameB o.f0 x.f0) = true
    · rw [if_pos h, List.singleton_append]
      refine ⟨List.pairwise_cons.2 ⟨fun b hb => i2 b hb x (by simp), i1⟩, fun g hg p hp => ?_⟩
      rcases List.mem_cons.1 hg with rfl | hg
      · have := List.all_eq_true.1 h p hp
        simpa using this
      · exact i2 g hg p (by simp [hp])
    · rw [if_neg h, List.nil_append]
      exact ⟨i1, fun g hg p hp => i2 g hg p (by simp [hp])⟩
theorem idx_first (x : S49) (pre l : List S49) : (idxP (fun o => sameB o.f0 x.f0) (pre ++ x :: l) = (pre.length : Int)) ↔ (pre.all fun o => !sameB o.f0 x.f0) = true := by
  have hx : sameB x.f0 x.f0 = true := sameB_refl _
  constructor
  · intro h
    rw [List.all_eq_true]
    intro o ho
    obtain ⟨j, hj, rfl⟩ := List.mem_iff_getElem.1 ho
    cases hc : sameB pre[j].f0 x.f0 with
    | false => rfl
    | true =>
      exfalso
      unfold idxP at h
      rw [if_pos (List.any_eq_true.2 ⟨x, by simp, hx⟩)] at h
      have h2 : (pre ++ x :: l).findIdx (fun o => sameB o.f0 x.f0) ≤ j := by
        refine Nat.le_of_not_lt (fun hlt => ?_)
        have := List.not_of_lt_findIdx hlt
        rw [List.getElem_append_left hj] at this
        rw [hc] at this
        cases this
      omega
  · intro h
    refine idxP_hit _ _ pre.length (by simp) ?_ (fun j hj hlt => ?_)
    · rw [List.getElem_append_right (Nat.le_refl _)]
      simpa using hx
    · rw [List.getElem_append_left hlt]
      have := List.all_eq_true.1 h _ (List.getElem_mem hlt)
      simpa using this
theorem SmallP_said {l : List S49} (h : SmallP l) : SmallP (saidV l) := by
  have h1 := wout_len mergU (stripV l)
  have h2 := wout_len (stripN l) l
  have e1 : (saidV l).length = (wout mergU (stripV l)).length := rfl
  have e2 : (stripV l).length = (wout (stripN l) l).length := rfl
  exact ⟨by have := h.1; omega, fun f hf => h.2 f (wout_mem (wout_mem hf))⟩
theorem more_small (l : List S49) (h : SmallP l) : (moreV l).length ≤ 30 ∧ ∀ g ∈ moreV l, g.f0.size ≤ 100 ∧ g.f1.size ≤ 9060 := by
  have hs := SmallP_said h
  refine ⟨Nat.le_trans (more_len _ _ _) hs.1, fun g hg => ?_⟩
  obtain ⟨x, hx, rfl⟩ := more_mem _ _ _ g hg
  exact ⟨(hs.2 x hx).1, getB_small _ _ hs⟩
def mergeV (came l : List S49) : List S49 := withAll came (moreV l)
def Came (l : List S49) : Prop := l.length ≤ 1000 ∧ ∀ f ∈ l, f.f0.size ≤ 100 ∧ f.f1.size ≤ 9060
theorem merge_l0 (came S : List S49) (hc : came.length ≤ 100000 ∧ ∀ f ∈ came, f.f0.size ≤ 100) (h : SmallP S) : ∀ (d i k : Nat) (acc : List S49), i + d = S.length → acc.length ≤ i → (∀ g ∈ acc, g.f0.size ≤ 100) → d + 4000 < k →
    pass_Merge.l0 k came S acc S (S.length : Int) (i : Int) = some (withAll came (acc ++ moreFrom S (S.take i) (S.drop i))) := by
  have hl := h.1
  intro d
  induction d with
  | zero =>
    intro i k acc hi ha hn hk
    obtain ⟨k, rfl⟩ : ∃ j, k = j + 1 := ⟨k - 1, by omega⟩
    simp only [pass_Merge.l0]
    rw [if_neg (by omega), List.drop_of_length_le (by omega)]
    unfold field_List_With.f
    have hm := hc.1
    rw [if_pos ⟨by omega, fun x hx => by have := hc.2 x hx; omega, fun x hx => by have := hn x hx; omega⟩]
    simp [moreFrom]
  | succ d ih =>
    intro i k acc hi ha hn hk
    obtain ⟨k, rfl⟩ : ∃ j, k = j + 1 := ⟨k - 1, by omega⟩
    have hlt : i < S.length := by omega
    have hx := h.2 _ (List.getElem_mem hlt)
    have nx : ∀ acc' : List S49, acc'.length ≤ i + 1 → (∀ g ∈ acc', g.f0.size ≤ 100) → pass_Merge.l0 k came S acc' S (S.length : Int) ((i : Int) + 1) = some (withAll came (acc' ++ moreFrom S (S.take i ++ [S[i]]) (S.drop (i + 1)))) := fun acc' h1 h2 => by
      have := ih (i + 1) k acc' (by omega) h1 h2 (by omega)
      rwa [show ((i + 1 : Nat) : Int) = (i : Int) + 1 by omega, List.take_succ_eq_append_getElem hlt] at this
    simp only [pass_Merge.l0]
    rw [if_pos (by omega), if_pos (by omega), if_pos (by omega), rd39 S i hlt]
    unfold field_Field_42.f
    rw [if_pos ⟨by omega, by omega, fun x hx => by have := (h.2 x hx).1; omega⟩]
    simp only [Option.bind_some]
    have hsplit : S = S.take i ++ S[i] :: S.drop (i + 1) := by rw [← List.drop_eq_getElem_cons hlt, List.take_append_drop]
    have hf := idx_first S[i] (S.take i) (S.drop (i + 1))
    rw [← hsplit, List.length_take, Nat.min_eq_left (by omega)] at hf
    rw [List.drop_eq_getElem_cons hlt, moreFrom, w64n (by omega) (by omega)]
    by_cases hc1 : ((S.take i).all fun o => !sameB o.f0 S[i].f0) = true
    · rw [if_pos (hf.2 hc1), if_pos hc1, get_eval S[i].f0 S (by omega) (fun x hx => by have := h.2 x hx; omega) (by omega) k (by omega)]
      simp only [Option.bind_some]
      rw [if_pos (by omega), nx _ (by simp; omega) (fun g hg => by
        rcases List.mem_append.1 hg with hg | hg
        · exact hn g hg
        · obtain rfl := List.mem_singleton.1 hg
          exact hx.1), List.append_assoc]
      rfl
    · rw [if_neg (fun x => hc1 (hf.1 x)), if_neg hc1, nx _ (by omega) hn, List.nil_append]
theorem merge_eval (came l : List S49) (hc : came.length ≤ 100000 ∧ ∀ f ∈ came, f.f0.size ≤ 100) (h : SmallP l) (k : Nat) (hk : 3000100 < k) : pass_Merge.f k came l = some (mergeV came l) := by
  have e : pass_Merge.f k came l = ((pass_Strip.f k l).bind fun t => (field_List_Without.f k t mergU).bind fun u => pass_Merge.l0 k came u [] u (u.length : Int) 0) := rfl
  have hs := SmallF_strip h.F
  have hsl := hs.1
  have w : field_List_Without.f k (stripV l) mergU = some (saidV l) := wout_f mergU (stripV l) (by decide) (fun x hx => by have := merg_sizes x hx; omega) (fun x hx => by have := (hs.2 x hx).1; omega) (by omega) k (by omega)
  rw [e, strip_eval l h.F k hk]
  simp only [Option.bind_some]
  rw [w]
  simp only [Option.bind_some]
  have hsp := SmallP_said h
  have := merge_l0 came (saidV l) hc hsp (saidV l).length 0 k [] (Nat.zero_add _) (by simp) (fun g hg => by simp at hg) (by have := hsp.1; omega)
  exact this
theorem rmerge_l1 (S : List S49) (h : SmallP S) (out : List S49) (i : Nat) (hi : i < S.length) (ho : out.length ≤ 100 ∧ ∀ f ∈ out, f.f0.size ≤ 100) (B : Nat) (res : Option (List S53))
    (nx : ∀ kk, B < kk → pantryref13_Merge.l0 kk (S.map conv) (((if ((S.take i).all fun o => !sameB o.f0 S[i].f0) = true then withOne out ⟨S[i].f0, getB S[i].f0 S⟩ else out)).map conv) ((i : Int) + 1) = res) :
    ∀ (d j k : Nat) (b : Bool), j + d = i → d + B + 4000 < k → b = ((S.take j).all fun o => !sameB o.f0 S[i].f0) → pantryref13_Merge.l1 k (S.map conv) (out.map conv) (i : Int) b (j : Int) = res := by
  have hl := h.1
  have hx := h.2 _ (List.getElem_mem hi)
  intro d
  induction d with
  | zero =>
    intro j k b hj hk hb
    obtain ⟨k, rfl⟩ : ∃ j, k = j + 1 := ⟨k - 1, by omega⟩
    obtain rfl : j = i := by omega
    simp only [pantryref13_Merge.l1]
    rw [if_neg (by omega), w64n (by omega) (by omega)]
    have := nx k (by omega)
    rw [← hb] at this
    cases b with
    | false =>
      rw [if_neg (by simp)] at this ⊢
      exact this
    | true =>
      rw [if_pos rfl] at this
      have e2 : pantryref03_Get.f k (S.map conv) (conv S[j]).f0 = some (getB S[j].f0 S, ((allV S[j].f0 S).length : Int)) := rget_eval S[j].f0 S (by omega) h.F k (by omega)
      have e3 : pantryref03_With.f k (out.map conv) (conv S[j]).f0 (getB S[j].f0 S) = some ((withOne out ⟨S[j].f0, getB S[j].f0 S⟩).map conv) := rwith_eval ⟨S[j].f0, getB S[j].f0 S⟩ (by show S[j].f0.size ≤ 1000; omega) out (fun x hx => by have := ho.2 x hx; omega) (by have := ho.1; omega) k (by omega)
      rw [if_pos rfl, if_pos (by omega), if_pos (by rw [List.length_map]; omega), rd36 _ j (by rw [List.length_map]; omega), List.getElem_map, e2]
      simp only [Option.bind_some]
      rw [e3]
      simp only [Option.bind_some]
      exact this
  | succ d ih =>
    intro j k b hj hk hb
    obtain ⟨k, rfl⟩ : ∃ j, k = j + 1 := ⟨k - 1, by omega⟩
    have hlt : j < S.length := by omega
    have hy := h.2 _ (List.getElem_mem hlt)
    have nx2 : ∀ b : Bool, b = ((S.take (j + 1)).all fun o => !sameB o.f0 S[i].f0) → pantryref13_Merge.l1 k (S.map conv) (out.map conv) (i : Int) b ((j : Int) + 1) = res := fun b h => by
      have := ih (j + 1) k b (by omega) (by omega) h
      rwa [show ((j + 1 : Nat) : Int) = (j : Int) + 1 by omega] at this
    have ha : ((S.take (j + 1)).all fun o => !sameB o.f0 S[i].f0) = (b && !sameB S[j].f0 S[i].f0) := by
      rw [List.take_succ_eq_append_getElem hlt, List.all_append, ← hb]
      simp
    simp only [pantryref13_Merge.l1]
    rw [if_pos (by omega), w64n (by omega) (by omega)]
    cases b with
    | false =>
      rw [if_neg (by simp)]
      exact nx2 false (by rw [ha]; rfl)
    | true =>
      have e : pantryref03_Field_Is.f k (conv S[j]).f0 (conv S[j]).f1 (conv S[i]).f0 = some (sameB S[i].f0 S[j].f0) := is_eval _ _ S[i].f0 (by simp only [conv]; omega) (by omega) k (by simp only [conv]; omega) (by omega)
      rw [if_pos rfl, if_pos (by omega), if_pos (by rw [List.length_map]; omega), if_pos (by omega), if_pos (by rw [List.length_map]; omega), rd36 _ j (by rw [List.length_map]; omega), rd36 _ i (by rw [List.length_map]; omega), List.getElem_map, List.getElem_map, e]
      simp only [Option.bind_some]
      exact nx2 _ (by rw [ha, sameB_comm S[j].f0]; rfl)
theorem rmerge_l0 (S : List S49) (h : SmallP S) : ∀ (d i k : Nat) (out : List S49), i + d = S.length → out.length + d ≤ 100 → (∀ f ∈ out, f.f0.size ≤ 100) → d * 5000 + 5000 < k →
    pantryref13_Merge.l0 k (S.map conv) (out.map conv) (i : Int) = some ((withAll out (moreFrom S (S.take i) (S.drop i))).map conv) := by
  have hl := h.1
  intro d
  induction d with
  | zero =>
    intro i k out hi ho hn hk
    obtain ⟨k, rfl⟩ : ∃ j, k = j + 1 := ⟨k - 1, by omega⟩
    simp only [pantryref13_Merge.l0]
    rw [if_neg (by rw [List.length_map]; omega), List.drop_of_length_le (by omega)]
    simp [moreFrom, withAll]
  | succ d ih =>
    intro i k out hi ho hn hk
    obtain ⟨k, rfl⟩ : ∃ j, k = j + 1 := ⟨k - 1, by omega⟩
    have hlt : i < S.length := by omega
    have hx := h.2 _ (List.getElem_mem hlt)
    obtain ⟨B, hB⟩ : ∃ B, B = d * 5000 + 5000 := ⟨_, rfl⟩
    simp only [pantryref13_Merge.l0]
    rw [if_pos (by rw [List.length_map]; omega)]
    refine rmerge_l1 S h out i hlt ⟨by omega, hn⟩ B _ (fun kk hkk => ?_) i 0 k true (Nat.zero_add _) (by omega) (by simp)
    rw [List.drop_eq_getElem_cons hlt, moreFrom, ← List.take_succ_eq_append_getElem hlt]
    by_cases hc : ((S.take i).all fun o => !sameB o.f0 S[i].f0) = true
    · rw [if_pos hc, if_pos hc]
      have hol := withOne_len out ⟨S[i].f0, getB S[i].f0 S⟩
      have := ih (i + 1) kk (withOne out ⟨S[i].f0, getB S[i].f0 S⟩) (by omega) (by omega) (fun f hf => by
        rcases withOne_mem _ _ _ hf with hf | rfl
        · exact hn f hf
        · exact hx.1) (hB ▸ hkk)
      rw [show ((i + 1 : Nat) : Int) = (i : Int) + 1 by omega] at this
      rw [this]
      rfl
    · rw [if_neg hc, if_neg hc, List.nil_append]
      have := ih (i + 1) kk out (by omega) (by omega) hn (hB ▸ hkk)
      rw [show ((i + 1 : Nat) : Int) = (i : Int) + 1 by omega] at this
      exact this
theorem rmerge_eval (came l : List S49) (hc : came.length ≤ 40 ∧ ∀ f ∈ came, f.f0.size ≤ 100) (h : SmallP l) (k : Nat) (hk : 4000100 < k) : pantryref13_Merge.f k (came.map conv) (l.map conv) = some ((mergeV came l).map conv) := by
  have e : pantryref13_Merge.f k (came.map conv) (l.map conv) = ((pantryref13_Strip.f k (l.map conv)).bind fun t => (pantryref13_without.f k t mergL).bind fun u => if 0 + (came.map conv).length < 4398046511104 then pantryref13_Merge.l0 k u (came.map conv) 0 else none) := rfl
  rw [e, rstrip_eval l h.F k hk]
  simp only [Option.bind_some]
  rw [rwithout_eval _ (SmallF_strip h.F) mergL (fun n hn => by have := mergL_sizes n hn; omega) (by decide) k (by omega)]
  simp only [Option.bind_some]
  have hcl := hc.1
  rw [if_pos (by rw [List.length_map]; omega)]
  have hw : wout mergL (stripV l) = saidV l := wout_congr (fun f => by rw [merg_low, isOf_map_low]) _
  rw [hw]
  have hsp := SmallP_said h
  have hspl := hsp.1
  exact rmerge_l0 (saidV l) hsp (saidV l).length 0 k came (Nat.zero_add _) (by omega) hc.2 (by omega)
/-! ### What is set again -/
theorem withOne_same (f : S49) (l : List S49) (h : l.filter (isOf [f.f0]) = [f]) : withOne l f = l := by
  rw [← goW_one]
  induction l with
  | nil => simp at h
  | cons x l ih =>
    by_cases hs : sameB f.f0 x.f0 = true
    · rw [List.filter_cons_of_pos (by simp [isOf, hs])] at h
      injection h with h1 h2
      rw [goW, if_pos hs, if_neg (by simp), goW_true, wout_all (fun y hy => ?_), h1]
      have := List.filter_eq_nil_iff.1 h2 y hy
      simpa using this
    · rw [List.filter_cons_of_neg (by simp [isOf, hs])] at h
      rw [goW, if_neg hs, ih h]
theorem withAll_same (l : List S49) : ∀ B : List S49, (∀ f ∈ B, l.filter (isOf [f.f0]) = [f]) → withAll l B = l := by
  intro B
  induction B with
  | nil => intro _; rfl
  | cons f B ih =>
    intro h
    have e : withAll l (f :: B) = withAll (withOne l f) B := rfl
    rw [e, withOne_same f l (h f (by simp))]
    exact ih (fun g hg => h g (by simp [hg]))
theorem filt_in (came more : List S49) (hp : more.Pairwise (fun a b => sameB a.f0 b.f0 = false)) : ∀ f ∈ more, (withAll came more).filter (isOf [f.f0]) = [f] := by
  intro f hf
  obtain ⟨A, B, rfl⟩ := List.append_of_mem hf
  have e : withAll came (A ++ f :: B) = withAll (withOne (withAll came A) f) B := by
    unfold withAll
    rw [List.foldl_append]
    rfl
  have h2 := (List.pairwise_append.1 hp).2.1
  rw [e, filt_all _ _ _ (fun g hg => (List.pairwise_cons.1 h2).1 g hg), ← goW_one, filt_set, if_neg (by simp)]
theorem merge_again (came l : List S49) : mergeV (mergeV came l) l = mergeV came l := by
  unfold mergeV
  exact withAll_same _ _ (filt_in came (moreV l) (more_apart _ _ _).1)
theorem merge_other (came l : List S49) (n : ByteArray) (h : allV n l = []) : allV n (mergeV came l) = allV n came := by
  unfold allV mergeV
  congr 1
  have := filt_all ⟨n, n⟩ (moreV l) came (fun g hg => by
    obtain ⟨x, hx, rfl⟩ := more_mem _ _ _ g hg
    unfold allV at h
    rw [List.map_eq_nil_iff, List.filter_eq_nil_iff] at h
    have := h x (wout_mem (wout_mem hx))
    simpa [isOf] using this)
  exact this
/-! ### Names -/
theorem names_l1 (x : List S53) (i : Nat) (hi : i ≤ 1000) (v : ByteArray) (out : List ByteArray) (ho : out.length ≤ 1000) (P : List ByteArray → Prop) (B : Nat)
    (nx : ∀ (o : List ByteArray) (kk : Nat), (o = out ∨ o = out ++ [v]) → B < kk → ∃ ns, pantryref13_Names.l0 kk x o ((i : Int) + 1) = some ns ∧ P ns) :
    ∀ (d j k : Nat) (b : Bool), j + d = out.length → d + B + 2 < k → ∃ ns, pantryref13_Names.l1 k x out (i : Int) v b (j : Int) = some ns ∧ P ns := by
  intro d
  induction d with
  | zero =>
    intro j k b hj hk
    obtain ⟨k, rfl⟩ : ∃ j, k = j + 1 := ⟨k - 1, by omega⟩
    simp only [pantryref13_Names.l1]
    rw [if_neg (by omega), w64n (by omega) (by omega)]
    cases b with
    | true => rw [if_pos rfl]; exact nx _ _ (.inl rfl) (by omega)
    | false => rw [if_neg (by simp), if_pos (by omega)]; exact nx _ _ (.inr rfl) (by omega)
  | succ d ih =>
    intro j k b hj hk
    obtain ⟨k, rfl⟩ : ∃ j, k = j + 1 := ⟨k - 1, by omega⟩
    simp only [pantryref13_Names.l1]
    rw [if_pos (by omega), w64n (by omega) (by omega)]
    have := fun b => ih (j + 1) k b (by omega) (by omega)
    simp only [show ((j + 1 : Nat) : Int) = (j : Int) + 1 by omega] at this
    cases b with
    | true => rw [if_pos rfl]; exact this _
    | false => rw [if_neg (by simp), if_pos (by omega)]; exact this _
theorem names_l0 (came : List S49) (hc : came.length ≤ 1000 ∧ ∀ f ∈ came, f.f0.size ≤ 100) : ∀ (d i k : Nat) (out : List ByteArray), i + d = came.length → out.length ≤ i → (∀ n ∈ out, ∃ x ∈ came, n = lowB x.f0) → d * 2000 + 2000 < k →
    ∃ ns, pantryref13_Names.l0 k (came.map conv) out (i : Int) = some ns ∧ (ns.length ≤ came.length ∧ ∀ n ∈ ns, ∃ x ∈ came, n = lowB x.f0) := by
  have hl := hc.1
  intro d
  induction d with
  | zero =>
    intro i k out hi ho hn hk
    obtain ⟨k, rfl⟩ : ∃ j, k = j + 1 := ⟨k - 1, by omega⟩
    simp only [pantryref13_Names.l0]
    rw [if_neg (by rw [List.length_map]; omega)]
    exact ⟨out, rfl, by omega, hn⟩
  | succ d ih =>
    intro i k out hi ho hn hk
    obtain ⟨k, rfl⟩ : ∃ j, k = j + 1 := ⟨k - 1, by omega⟩
    have hlt : i < came.length := by omega
    have hx := hc.2 _ (List.getElem_mem hlt)
    obtain ⟨B, hB⟩ : ∃ B, B = d * 2000 + 2000 := ⟨_, rfl⟩
    have e : pantryref01_Lower.f k (conv came[i]).f0 = some (lowB came[i].f0) := rlow_eval _ (by simp only [conv]; omega) k (by simp only [conv]; omega)
    simp only [pantryref13_Names.l0]
    rw [if_pos (by rw [List.length_map]; omega), if_pos (by omega), rd36 _ i (by rw [List.length_map]; omega), List.getElem_map, e]
    simp only [Option.bind_some]
    refine names_l1 (came.map conv) i (by omega) (lowB came[i].f0) out (by omega) _ B (fun o kk hoo hkk => ?_) out.length 0 k false (Nat.zero_add _) (by omega)
    have := ih (i + 1) kk o (by omega) (by
      rcases hoo with rfl | rfl
      · omega
      · simp; omega) (fun n hm => by
      rcases hoo with rfl | rfl
      · exact hn n hm
      · rcases List.mem_append.1 hm with hm | hm
        · exact hn n hm
        · exact ⟨_, List.getElem_mem hlt, List.mem_singleton.1 hm⟩) (hB ▸ hkk)
    simpa only [show ((i + 1 : Nat) : Int) = (i : Int) + 1 by omega] using this
theorem merges_l0 (came l m : List S49) (hm : m = mergeV came l) (hc : SmallP came) (h : SmallP l) (ns : List ByteArray) (hns : ns.length ≤ 1000) (hn : ∀ n ∈ ns, ∃ x ∈ came, n = lowB x.f0) :
    ∀ (d i k : Nat), i + d = ns.length → d + 4000 < k → pantrylaw13_PassMerges.l0 k came l m ns (ns.length : Int) (i : Int) = some true := by
  have hcl := hc.1
  have hll := h.1
  obtain ⟨q1, q2⟩ := more_small l h
  have hml : m.length ≤ came.length + (moreV l).length := by rw [hm]; exact withAll_len _ _
  have hmm : ∀ f ∈ m, f.f0.size ≤ 100 ∧ f.f1.size ≤ 9060 := fun f hf => by
    rw [hm] at hf
    rcases withAll_mem _ _ _ hf with hf | hf
    · have := hc.2 f hf; omega
    · exact q2 f hf
  intro d
  induction d with
  | zero =>
    intro i k hi hk
    obtain ⟨k, rfl⟩ : ∃ j, k = j + 1 := ⟨k - 1, by omega⟩
    simp only [pantrylaw13_PassMerges.l0]
    rw [if_neg (by omega)]
  | succ d ih =>
    intro i k hi hk
    obtain ⟨k, rfl⟩ : ∃ j, k = j + 1 := ⟨k - 1, by omega⟩
    have hlt : i < ns.length := by omega
    obtain ⟨x, hx, hnx⟩ := hn _ (List.getElem_mem hlt)
    have hxs := (hc.2 x hx).1
    have hsz : (ns[i]).size ≤ 100 := by rw [hnx, lowB_size]; exact hxs
    have nx := ih (i + 1) k (by omega) (by omega)
    rw [show ((i + 1 : Nat) : Int) = (i : Int) + 1 by omega] at nx
    have g : ∀ (z : List S49), z.length ≤ 1000 → (∀ f ∈ z, f.f0.size ≤ 100 ∧ f.f1.size ≤ 9060) → field_List_Get.f k z ns[i] = some (getB ns[i] z, decide (0 < (allV ns[i] z).length)) := fun z hz hf => get_eval ns[i] z (by omega) (fun x hx => by have := hf x hx; omega) (by omega) k (by omega)
    have al : ∀ (z : List S49), z.length ≤ 1000 → (∀ f ∈ z, f.f0.size ≤ 100 ∧ f.f1.size ≤ 9060) → field_List_All.f k z ns[i] = some (allV ns[i] z) := fun z hz hf => all_eval ns[i] z (by omega) (fun x hx => by have := hf x hx; omega) (by omega) k (by omega)
    have hcm : ∀ f ∈ came, f.f0.size ≤ 100 ∧ f.f1.size ≤ 9060 := fun f hf => by have := hc.2 f hf; omega
    simp only [pantrylaw13_PassMerges.l0]
    rw [if_pos (by omega), if_pos (by omega), if_pos (by omega), rdB ns i hlt, g l (by omega) (fun f hf => by have := h.2 f hf; omega), w64n (by omega) (by omega)]
    simp only [Option.bind_some]
    by_cases h0 : 0 < (allV ns[i] l).length
    · rw [if_pos (decide_eq_true h0)]
      exact nx
    · rw [if_neg (by rw [decide_eq_false h0]; simp)]
      have hnil : allV ns[i] l = [] := List.eq_nil_of_length_eq_zero (by omega)
      have hall : allV ns[i] m = allV ns[i] came := by rw [hm]; exact merge_other came l _ hnil
      have hget : getB ns[i] m = getB ns[i] came := by unfold getB; rw [hall]
      have hpos : 0 < (allV ns[i] came).length := by
        unfold allV
        rw [List.length_map, List.length_pos_iff]
        intro hz
        have := List.filter_eq_nil_iff.1 hz x hx
        rw [hnx, isOf_low] at this
        exact this (by simp [isOf, sameB_refl])
      rw [g came (by omega) hcm]
      simp only [Option.bind_some]
      rw [g m (by omega) hmm, hget, hall]
      simp only [Option.bind_some]
      rw [if_pos (decide_eq_true hpos), if_pos trivial, al m (by omega) hmm, al came (by omega) hcm, hall]
      simp only [Option.bind_some]
      rw [if_pos trivial]
      exact nx
theorem law_PassMerges (l0 l1 : List S49) (h0 : l0.length ≤ 9223372036854775807) (h1 : l1.length ≤ 9223372036854775807) : ∃ k, pantrylaw13_PassMerges.f k l0 l1 = some true := by
  obtain ⟨K, hK⟩ : ∃ K, l0.length + l1.length + 6000000 ≤ K := ⟨_, Nat.le_refl _⟩
  refine ⟨K, ?_⟩
  obtain ⟨k, hk⟩ : ∃ j, K = j + 1 + 1 := ⟨K - 2, by omega⟩
  have jt : pantrylaw13_PassMerges.j0 K l0 l1 true = some true := by rw [hk]; simp [pantrylaw13_PassMerges.j0]
  unfold pantrylaw13_PassMerges.f
  rw [anchor_ok _ (by omega)]
  simp only [Option.bind_some]
  rw [if_pos trivial]
  obtain ⟨b, hb, hs⟩ := small_eval l0 h0 K (by omega)
  obtain ⟨b', hb', hs'⟩ := small_eval l1 h1 K (by omega)
  rw [hb]
  simp only [Option.bind_some]
  cases b with
  | false => rw [if_neg (by simp)]; exact jt
  | true =>
    rw [if_pos rfl, hb']
    simp only [Option.bind_some]
    cases b' with
    | false => exact jt
    | true =>
      have s0 := hs rfl
      have s1 := hs' rfl
      have z0 := s0.1
      have z1 := s1.1
      obtain ⟨q1, q2⟩ := more_small l1 s1
      have hml : (mergeV l0 l1).length ≤ l0.length + (moreV l1).length := withAll_len _ _
      have hmm : ∀ f ∈ mergeV l0 l1, f.f0.size ≤ 100 := fun f hf => by
        rcases withAll_mem _ _ _ hf with hf | hf
        · exact (s0.2 f hf).1
        · exact (q2 f hf).1
      rw [hk]
      simp only [pantrylaw13_PassMerges.j0, Bool.not_true]
      rw [if_neg (by simp), made_eval l0 (by omega) (k + 1) (by omega)]
      simp only [Option.bind_some]
      rw [made_eval l1 (by omega) (k + 1) (by omega)]
      simp only [Option.bind_some]
      have e1 : pass_Merge.f (k + 1) l0 l1 = some (mergeV l0 l1) := merge_eval l0 l1 ⟨by omega, fun f hf => (s0.2 f hf).1⟩ s1 (k + 1) (by omega)
      have e2 : pass_Merge.f (k + 1) (mergeV l0 l1) l1 = some (mergeV l0 l1) := by
        rw [merge_eval _ l1 ⟨by omega, hmm⟩ s1 (k + 1) (by omega), merge_again]
      have e3 := rmerge_eval l0 l1 ⟨by omega, fun f hf => (s0.2 f hf).1⟩ s1 (k + 1) (by omega)
      have e4 := psame_eval (mergeV l0 l1) (by omega) (k + 1) (by omega)
      rw [e1]
      simp only [Option.bind_some]
      rw [e3]
      simp only [Option.bind_some]
      rw [e4]
      simp only [Option.bind_some]
      rw [if_pos trivial, e2]
      simp only [Option.bind_some]
      rw [e4]
      simp only [Option.bind_some]
      simp only [pantrylaw13_PassMerges.j1, Bool.not_true]
      rw [if_neg (by simp)]
      obtain ⟨ns, hns, hl, hn⟩ := names_l0 l0 ⟨by omega, fun f hf => (s0.2 f hf).1⟩ l0.length 0 k [] (Nat.zero_add _) (by simp) (fun n hn => by simp at hn) (by omega)
      have e5 : pantryref13_Names.f k (l0.map conv) = some ns := hns
      rw [e5]
      simp only [Option.bind_some]
      exact merges_l0 l0 l1 _ rfl s0 s1 ns (by omega) hn ns.length 0 k (Nat.zero_add _) (by omega)

end Go.Proofs.YtcechlbeghcliaaDoor.PAll
