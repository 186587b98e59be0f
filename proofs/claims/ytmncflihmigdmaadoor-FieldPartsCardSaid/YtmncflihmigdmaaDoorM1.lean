import Derived.Test.YtmncflihmigdmaaDoorPAllx0
import Derived.Test.YtmncflihmigdmaaDoorPAllx1
import Derived.Test.YtmncflihmigdmaaDoorPAllx2
import Derived.Test.YtmncflihmigdmaaDoorPAllx3
import Derived.Test.YtmncflihmigdmaaDoorPAllx4
import Derived.Test.YtmncflihmigdmaaDoorPAllx5
import Derived.Test.YtmncflihmigdmaaDoorPAllx6
import Derived.Test.YtmncflihmigdmaaDoorPAllx7
import Derived.Lib.Join
namespace Go.Proofs.YtmncflihmigdmaaDoor.PAll
open Go.RowKit Go.Proofs.YtmncflihmigdmaaDoorW.PrintWords Go.Proofs.YtmncflihmigdmaaDoorW.PrintLast Go.Proofs.YtmncflihmigdmaaDoorW.PrintMore
set_option linter.unusedVariables false
set_option linter.unusedSimpArgs false

/-! ## Fields, as lists -/
theorem anchor60 : pantrylaw03_anchor.f 60 = some true := by decide +kernel
theorem anchor_ok (k : Nat) (hk : 60 ≤ k) : pantrylaw03_anchor.f k = some true := by
  obtain ⟨j, rfl⟩ : ∃ j, k = 60 + j := ⟨k - 60, by omega⟩
  clear hk
  induction j with
  | zero => exact anchor60
  | succ j ih => exact pantrylaw03_anchor.mono _ _ ih
theorem rd39 (l : List S39) (i : Nat) (h : i < l.length) : rd_T39 l (i : Int) = l[i] := by simp [rd_T39, h]
theorem rd36 (l : List S36) (i : Nat) (h : i < l.length) : rd_T36 l (i : Int) = l[i] := by simp [rd_T36, h]
theorem rdB (l : List ByteArray) (i : Nat) (h : i < l.length) : rdOf ByteArray.empty l (i : Int) = l[i] := by simp [rdOf, h]
def SmallF (l : List S39) : Prop := l.length ≤ 70 ∧ ∀ f ∈ l, f.f0.size ≤ 200 ∧ f.f1.size ≤ 1100
theorem small_l0 (l : List S39) (hl : l.length ≤ 9223372036854775807) : ∀ (d i k : Nat), i + d = l.length → d < k →
    ∃ b, pantrylaw03_small.l0 k l l (l.length : Int) (i : Int) = some b ∧ (b = true → l.length ≤ 70 ∧ ∀ f ∈ l.drop i, f.f0.size ≤ 200 ∧ f.f1.size ≤ 1100) := by
  intro d
  induction d with
  | zero =>
    intro i k hi hk
    obtain ⟨k, rfl⟩ : ∃ j, k = j + 1 := ⟨k - 1, by omega⟩
    simp only [pantrylaw03_small.l0]
    rw [if_neg (by omega)]
    refine ⟨_, rfl, fun h => ?_⟩
    have := of_decide_eq_true h
    rw [List.drop_of_length_le (by omega)]
    exact ⟨by omega, fun f hf => by cases hf⟩
  | succ d ih =>
    intro i k hi hk
    obtain ⟨k, rfl⟩ : ∃ j, k = j + 1 := ⟨k - 1, by omega⟩
    have hlt : i < l.length := by omega
    simp only [pantrylaw03_small.l0]
    rw [if_pos (by omega), if_pos (by omega), if_pos (by omega), rd39 l i hlt]
    by_cases h1 : ((l[i].f0).size : Int) > 200
    · rw [if_pos h1]; exact ⟨false, rfl, fun h => by cases h⟩
    · rw [if_neg h1]
      by_cases h2 : ((l[i].f1).size : Int) > 1100
      · rw [if_pos h2]; exact ⟨false, rfl, fun h => by cases h⟩
      · rw [if_neg h2, w64n (by omega) (by omega)]
        obtain ⟨b, hb, hs⟩ := ih (i + 1) k (by omega) (by omega)
        refine ⟨b, hb, fun h => ?_⟩
        obtain ⟨h3, h4⟩ := hs h
        refine ⟨h3, fun f hf => ?_⟩
        rw [List.drop_eq_getElem_cons hlt] at hf
        rcases List.mem_cons.1 hf with rfl | hf
        · exact ⟨by omega, by omega⟩
        · exact h4 f hf
theorem small_eval (l : List S39) (hl : l.length ≤ 9223372036854775807) (k : Nat) (hk : l.length < k) : ∃ b, pantrylaw03_small.f k l = some b ∧ (b = true → SmallF l) := by
  obtain ⟨b, hb, hs⟩ := small_l0 l hl l.length 0 k (by omega) hk
  exact ⟨b, hb, fun h => by simpa [SmallF] using hs h⟩
def conv (f : S39) : S36 := ⟨f.f0, f.f1⟩
theorem conv_inj {f g : S39} (h : conv f = conv g) : f = g := by
  cases f; cases g
  simp only [conv, S36.mk.injEq] at h
  rw [h.1, h.2]
theorem made_l0 (l : List S39) (hl : l.length < 4398046511104) : ∀ (d i : Nat) (acc : List S36) (k : Nat), i + d = l.length → acc.length ≤ i → d < k →
    pantrymade_Fields.l0 k acc l (l.length : Int) (i : Int) = some (acc ++ (l.drop i).map conv) := by
  intro d
  induction d with
  | zero =>
    intro i acc k hi ha hk
    obtain ⟨k, rfl⟩ : ∃ j, k = j + 1 := ⟨k - 1, by omega⟩
    simp only [pantrymade_Fields.l0]
    rw [if_neg (by omega), List.drop_of_length_le (by omega)]
    simp
  | succ d ih =>
    intro i acc k hi ha hk
    obtain ⟨k, rfl⟩ : ∃ j, k = j + 1 := ⟨k - 1, by omega⟩
    have hlt : i < l.length := by omega
    simp only [pantrymade_Fields.l0]
    rw [if_pos (by omega), if_pos (by omega), if_pos (by omega), if_pos (by omega), rd39 l i hlt, w64n (by omega) (by omega)]
    have := ih (i + 1) (acc ++ [conv l[i]]) k (by omega) (by simp; omega) (by omega)
    rw [show ((i + 1 : Nat) : Int) = (i : Int) + 1 by omega] at this
    rw [List.drop_eq_getElem_cons hlt, List.map_cons, ← List.singleton_append (x := conv l[i]), ← List.append_assoc]
    exact this
theorem made_eval (l : List S39) (hl : l.length < 4398046511104) (k : Nat) (hk : l.length < k) : pantrymade_Fields.f k l = some (l.map conv) := by
  unfold pantrymade_Fields.f
  have := made_l0 l hl l.length 0 [] k (by omega) (by simp) hk
  simpa using this
/-! The reference's small letters -/
def lowI (x : Int) : Int := if x ≥ 65 ∧ x ≤ 90 then (x + 32) % 256 else x
theorem bt_at2 (s : ByteArray) (i : Nat) (h : i < s.data.toList.length) : bt s (i : Int) = ((s.data.toList[i]).toNat : Int) := by
  have h' : i < s.size := by simpa using h
  unfold bt
  simp only [Int.toNat_natCast]
  rw [dif_pos h']
  rfl
theorem lowI_u8 (c : UInt8) : UInt8.ofNat (lowI (c.toNat : Int)).toNat = lowU c := by
  have := c.toNat_lt
  unfold lowI lowU
  by_cases h : 65 ≤ c.toNat ∧ c.toNat ≤ 90
  · rw [if_pos (by omega), if_pos h]
    congr 1
    omega
  · rw [if_neg (by omega), if_neg h]
    simp
theorem rlow_l0 (s : ByteArray) (hs : s.size ≤ 140737488351232) : ∀ (d i : Nat) (acc : List Int) (k : Nat), i + d = s.size → acc.length ≤ i → d < k →
    pantryref01_Lower.l0 k s acc (i : Int) = some (strOfNums (acc ++ (s.data.toList.drop i).map fun c => lowI (c.toNat : Int))) := by
  intro d
  induction d with
  | zero =>
    intro i acc k hi ha hk
    obtain ⟨k, rfl⟩ : ∃ j, k = j + 1 := ⟨k - 1, by omega⟩
    have hz : s.data.toList.length = s.size := by simp
    simp only [pantryref01_Lower.l0]
    rw [if_neg (by omega), List.drop_of_length_le (by omega)]
    simp
  | succ d ih =>
    intro i acc k hi ha hk
    obtain ⟨k, rfl⟩ : ∃ j, k = j + 1 := ⟨k - 1, by omega⟩
    have hz : s.data.toList.length = s.size := by simp
    have hlt : i < s.data.toList.length := by omega
    simp only [pantryref01_Lower.l0]
    rw [if_pos (by omega), if_pos (by omega), bt_at2 s i hlt, w64n (by omega) (by omega)]
    have hc := (s.data.toList[i]).toNat_lt
    rw [List.drop_eq_getElem_cons hlt, List.map_cons]
    have step : ∀ x : Int, lowI ((s.data.toList[i]).toNat : Int) = x → pantryref01_Lower.l0 k s (acc ++ [x]) ((i : Int) + 1) = some (strOfNums (acc ++ lowI ((s.data.toList[i]).toNat : Int) :: (s.data.toList.drop (i + 1)).map fun c => lowI (c.toNat : Int))) := by
      rintro x rfl
      have := ih (i + 1) (acc ++ [lowI ((s.data.toList[i]).toNat : Int)]) k (by omega) (by simp; omega) (by omega)
      rw [show ((i + 1 : Nat) : Int) = (i : Int) + 1 by omega] at this
      rw [this, List.append_assoc]
      rfl
    by_cases h1 : ((s.data.toList[i]).toNat : Int) ≥ 65
    · rw [if_pos h1]
      by_cases h2 : ((s.data.toList[i]).toNat : Int) ≤ 90
      · rw [if_pos h2, if_pos (by omega)]
        exact step _ (by unfold lowI; rw [if_pos ⟨h1, h2⟩])
      · rw [if_neg h2, if_pos (by omega)]
        exact step _ (by unfold lowI; rw [if_neg (by omega)])
    · rw [if_neg h1, if_pos (by omega)]
      exact step _ (by unfold lowI; rw [if_neg (by omega)])
theorem rlow_eval (s : ByteArray) (hs : s.size ≤ 140737488351232) (k : Nat) (hk : s.size < k) : pantryref01_Lower.f k s = some (lowB s) := by
  unfold pantryref01_Lower.f
  have := rlow_l0 s hs s.size 0 [] k (by omega) (by simp) hk
  rw [show ((0 : Nat) : Int) = 0 from rfl] at this
  rw [this]
  congr 1
  unfold strOfNums lowB lowL
  simp only [List.nil_append, List.drop_zero, List.map_map]
  congr 2
  apply List.map_congr_left
  intro c _
  exact lowI_u8 c
theorem is_eval (f v n : ByteArray) (hf : f.size ≤ 140737488351232) (hn : n.size ≤ 140737488351232) (k : Nat) (hk : f.size < k) (hk2 : n.size < k) : pantryref03_Field_Is.f k f v n = some (sameB n f) := by
  unfold pantryref03_Field_Is.f
  rw [rlow_eval f hf k hk, rlow_eval n hn k hk2]
  simp only [Option.bind_some]
  congr 1
  unfold sameB
  rw [ByteArray.toList_eq, ByteArray.toList_eq, Bool.eq_iff_iff, beq_iff_eq, beq_iff_eq]
  simp only [lowB]
  exact eq_comm
def rwout (n : ByteArray) (l : List S36) : List S36 := l.filter fun o => !sameB n o.f0
theorem rwout_l0 (n : ByteArray) (l : List S36) (hn : n.size ≤ 1000) (hl : ∀ x ∈ l, x.f0.size ≤ 1000) (hlen : l.length ≤ 1000) : ∀ (d i : Nat) (acc : List S36) (k : Nat), i + d = l.length → acc.length ≤ i → d + 1001 < k →
    pantryref03_Without.l0 k l n acc (i : Int) = some (acc ++ rwout n (l.drop i)) := by
  intro d
  induction d with
  | zero =>
    intro i acc k hi ha hk
    obtain ⟨k, rfl⟩ : ∃ j, k = j + 1 := ⟨k - 1, by omega⟩
    simp only [pantryref03_Without.l0]
    rw [if_neg (by omega), List.drop_of_length_le (by omega)]
    simp [rwout]
  | succ d ih =>
    intro i acc k hi ha hk
    obtain ⟨k, rfl⟩ : ∃ j, k = j + 1 := ⟨k - 1, by omega⟩
    have hlt : i < l.length := by omega
    have hx := hl _ (List.getElem_mem hlt)
    simp only [pantryref03_Without.l0]
    rw [if_pos (by omega), if_pos (by omega), rd36 l i hlt, is_eval _ _ n (by omega) (by omega) k (by omega) (by omega)]
    simp only [Option.bind_some]
    rw [List.drop_eq_getElem_cons hlt, w64n (by omega) (by omega)]
    cases hs : sameB n l[i].f0 with
    | true =>
      rw [if_pos rfl]
      have := ih (i + 1) acc k (by omega) (by omega) (by omega)
      rw [show ((i + 1 : Nat) : Int) = (i : Int) + 1 by omega] at this
      rw [this]
      unfold rwout
      rw [List.filter_cons_of_neg (by simp [hs])]
    | false =>
      rw [if_neg (by simp), if_pos (by omega)]
      have := ih (i + 1) (acc ++ [l[i]]) k (by omega) (by simp; omega) (by omega)
      rw [show ((i + 1 : Nat) : Int) = (i : Int) + 1 by omega] at this
      unfold rwout
      rw [List.filter_cons_of_pos (by simp [hs])]
      refine Eq.trans this ?_
      rw [List.append_assoc]
      rfl
theorem rwout_f (n : ByteArray) (l : List S36) (hn : n.size ≤ 1000) (hl : ∀ x ∈ l, x.f0.size ≤ 1000) (hlen : l.length ≤ 1000) (k : Nat) (hk : 2002 < k) : pantryref03_Without.f k l n = some (rwout n l) := by
  unfold pantryref03_Without.f
  have := rwout_l0 n l hn hl hlen l.length 0 [] k (by omega) (by simp) (by omega)
  simpa using this

/-! ## All, Get, Same -/
def allV (n : ByteArray) (l : List S39) : List ByteArray := (l.filter (isOf [n])).map (·.f1)
theorem all_l0 (n : ByteArray) (l : List S39) (hn : n.size ≤ 140737488351232) (hl : ∀ x ∈ l, x.f0.size ≤ 140737488351232) (hlen : l.length < 4398046511104) :
    ∀ (d i : Nat) (acc : List ByteArray) (k : Nat), i + d = l.length → acc.length ≤ i → d < k →
    field_List_All.l0 k n acc l (l.length : Int) (i : Int) = some (acc ++ allV n (l.drop i)) := by
  intro d
  induction d with
  | zero =>
    intro i acc k hi ha hk
    obtain ⟨k, rfl⟩ : ∃ j, k = j + 1 := ⟨k - 1, by omega⟩
    simp only [field_List_All.l0]
    rw [if_neg (by omega), List.drop_of_length_le (by omega)]
    simp [allV]
  | succ d ih =>
    intro i acc k hi ha hk
    obtain ⟨k, rfl⟩ : ∃ j, k = j + 1 := ⟨k - 1, by omega⟩
    have hlt : i < l.length := by omega
    simp only [field_List_All.l0]
    rw [if_pos (by omega), if_pos (by omega), if_pos (by omega), rd39 l i hlt]
    unfold field_Field_named.f
    rw [if_pos ⟨hl _ (List.getElem_mem hlt), by simp, by simpa using hn⟩]
    simp only [Option.bind_some]
    rw [List.drop_eq_getElem_cons hlt, w64n (by omega) (by omega)]
    by_cases hs : isOf [n] l[i] = true
    · have hs' : ([n].any fun n => sameB n l[i].f0) = true := hs
      rw [if_pos hs', if_pos (by omega)]
      have := ih (i + 1) (acc ++ [l[i].f1]) k (by omega) (by simp; omega) (by omega)
      rw [show ((i + 1 : Nat) : Int) = (i : Int) + 1 by omega] at this
      rw [this]
      unfold allV
      rw [List.filter_cons_of_pos hs, List.append_assoc]
      rfl
    · have hs' : ¬ ([n].any fun n => sameB n l[i].f0) = true := hs
      rw [if_neg hs']
      have := ih (i + 1) acc k (by omega) (by omega) (by omega)
      rw [show ((i + 1 : Nat) : Int) = (i : Int) + 1 by omega] at this
      rw [this]
      unfold allV
      rw [List.filter_cons_of_neg hs]
theorem all_eval (n : ByteArray) (l : List S39) (hn : n.size ≤ 140737488351232) (hl : ∀ x ∈ l, x.f0.size ≤ 140737488351232) (hlen : l.length < 4398046511104) (k : Nat) (hk : l.length < k) : field_List_All.f k l n = some (allV n l) := by
  unfold field_List_All.f
  have := all_l0 n l hn hl hlen l.length 0 [] k (by omega) (by simp) hk
  simpa using this
theorem inter_len (sep : List UInt8) (M : Nat) : ∀ (xs : List (List UInt8)), (∀ x ∈ xs, x.length ≤ M) → (sep.intercalate xs).length ≤ xs.length * (M + sep.length) := by
  intro xs
  induction xs with
  | nil => intro _; simp [List.intercalate]
  | cons x xs ih =>
    intro h
    have h1 := h x (by simp)
    have h2 := ih (fun y hy => h y (by simp [hy]))
    cases xs with
    | nil => simp [List.intercalate]; omega
    | cons y ys =>
      have e : sep.intercalate (x :: y :: ys) = x ++ (sep ++ sep.intercalate (y :: ys)) := by simp [List.intercalate]
      rw [e]
      simp only [List.length_append, List.length_cons, Nat.add_mul, Nat.one_mul] at *
      omega
theorem get_eval (n : ByteArray) (l : List S39) (hn : n.size ≤ 140737488351232) (hs : ∀ x ∈ l, x.f0.size ≤ 200 ∧ x.f1.size ≤ 1100) (hlen : l.length ≤ 1000000) (k : Nat) (hk : l.length < k) :
    field_List_Get.f k l n = some (⟨(joinB (allV n l) ⟨#[44, 32]⟩).toArray⟩, decide (0 < (allV n l).length)) := by
  unfold field_List_Get.f
  rw [all_eval n l hn (fun x hx => by have := (hs x hx).1; omega) (by omega) k hk]
  simp only [Option.bind_some]
  have hle : (allV n l).length ≤ l.length := by
    unfold allV
    rw [List.length_map]
    exact List.length_filter_le _ _
  have hok : joinOk (allV n l) ⟨#[44, 32]⟩ := by
    refine ⟨by omega, ?_⟩
    unfold joinB Lib.join
    have := inter_len (⟨#[44, 32]⟩ : ByteArray).data.toList 1100 ((allV n l).map (·.data.toList)) (fun x hx => by
      obtain ⟨y, hy, rfl⟩ := List.mem_map.1 hx
      unfold allV at hy
      obtain ⟨f, hf, rfl⟩ := List.mem_map.1 hy
      have := (hs f (List.mem_filter.1 hf).1).2
      simpa using this)
    rw [List.length_map] at this
    have h2 : ((⟨#[44, 32]⟩ : ByteArray).data.toList).length = 2 := rfl
    rw [h2] at this
    have : (allV n l).length * (1100 + 2) ≤ 1000000 * 1102 := Nat.mul_le_mul_right _ (by omega)
    omega
  unfold strings_Join.f
  rw [if_pos hok]
  simp only [Option.bind_some]
  congr 2
  rw [decide_eq_decide]
  omega
theorem same_l0 (a : List S36) (hb : a.length ≤ 1000000) : ∀ (d i k : Nat), i + d = a.length → d < k → pantryref03_Same.l0 k a a (i : Int) = some true := by
  intro d
  induction d with
  | zero =>
    intro i k hi hk
    obtain ⟨k, rfl⟩ : ∃ j, k = j + 1 := ⟨k - 1, by omega⟩
    simp only [pantryref03_Same.l0]
    rw [if_neg (by omega)]
  | succ d ih =>
    intro i k hi hk
    obtain ⟨k, rfl⟩ : ∃ j, k = j + 1 := ⟨k - 1, by omega⟩
    simp only [pantryref03_Same.l0]
    rw [if_pos (by omega), if_pos (by omega), if_pos (by omega), w64n (by omega) (by omega)]
    have := ih (i + 1) k (by omega) (by omega)
    rw [show ((i + 1 : Nat) : Int) = (i : Int) + 1 by omega] at this
    rw [if_neg (by simp), this]
theorem same_eval (a : List S36) (hb : a.length ≤ 1000000) (k : Nat) (hk : a.length < k) : pantryref03_Same.f k a a = some true := by
  unfold pantryref03_Same.f
  rw [if_pos rfl]
  exact same_l0 a hb a.length 0 k (by omega) hk

/-! ## FieldLeaves -/
theorem wout_len (ns : List ByteArray) (l : List S39) : (wout ns l).length ≤ l.length := List.length_filter_le _ _
theorem wout_mem {ns : List ByteArray} {l : List S39} {x : S39} (h : x ∈ wout ns l) : x ∈ l := (List.mem_filter.1 h).1
theorem rwout_conv (n : ByteArray) (l : List S39) : rwout n (l.map conv) = (l.filter fun o => !sameB n o.f0).map conv := by
  unfold rwout
  rw [List.filter_map]
  rfl
theorem wout_snoc (ns : List ByteArray) (n : ByteArray) (l : List S39) : (wout ns l).filter (fun o => !sameB n o.f0) = wout (ns ++ [n]) l := by
  unfold wout
  rw [List.filter_filter]
  apply List.filter_congr
  intro x _
  unfold isOf
  simp only [List.any_append, List.any_cons, List.any_nil, Bool.or_false, Bool.not_or]
  exact Bool.and_comm _ _
def wsize (l : List S39) : Prop := ∀ f ∈ l, f.f0.size ≤ 200 ∧ f.f1.size ≤ 1100
theorem leaves_l1 (m : List S39) (ns : List ByteArray) (hm : wsize m) (hml : m.length ≤ 70) (hns : ns.length ≤ 20) (hn : ∀ x ∈ ns, x.size ≤ 100) (hno : ∀ n ∈ ns, allV n m = []) :
    ∀ (d i k : Nat), i + d = ns.length → d + 200 < k → pantrylaw03_FieldLeaves.l1 k (m.map conv) m ns (ns.length : Int) (i : Int) = some true := by
  intro d
  induction d with
  | zero =>
    intro i k hi hk
    obtain ⟨k, rfl⟩ : ∃ j, k = j + 1 := ⟨k - 1, by omega⟩
    simp only [pantrylaw03_FieldLeaves.l1]
    rw [if_neg (by omega), made_eval m (by omega) k (by omega)]
    simp only [Option.bind_some]
    rw [same_eval _ (by rw [List.length_map]; omega) k (by rw [List.length_map]; omega)]
    rfl
  | succ d ih =>
    intro i k hi hk
    obtain ⟨k, rfl⟩ : ∃ j, k = j + 1 := ⟨k - 1, by omega⟩
    have hlt : i < ns.length := by omega
    simp only [pantrylaw03_FieldLeaves.l1]
    rw [if_pos (by omega), if_pos (by omega), if_pos (by omega), rdB ns i hlt, get_eval _ m (by have := hn _ (List.getElem_mem hlt); omega) hm (by omega) k (by omega)]
    simp only [Option.bind_some]
    rw [hno _ (List.getElem_mem hlt), if_neg (by simp), w64n (by omega) (by omega)]
    have := ih (i + 1) k (by omega) (by omega)
    rw [show ((i + 1 : Nat) : Int) = (i : Int) + 1 by omega] at this
    exact this
theorem leaves_l0 (l : List S39) (ns : List ByteArray) (hl : SmallF l) (hns : ns.length ≤ 20) : ∀ (d i k : Nat), i + d = ns.length → d + 4000 < k → (∀ x ∈ ns.take i, x.size ≤ 100) →
    pantrylaw03_FieldLeaves.l0 k l ns ((wout (ns.take i) l).map conv) ns (ns.length : Int) (i : Int) = some true := by
  intro d
  induction d with
  | zero =>
    intro i k hi hk hx
    obtain ⟨k, rfl⟩ : ∃ j, k = j + 1 := ⟨k - 1, by omega⟩
    simp only [pantrylaw03_FieldLeaves.l0]
    obtain rfl : i = ns.length := by omega
    rw [List.take_length] at hx ⊢
    rw [if_neg (by omega), wout_f ns l (by omega) (fun x h => by have := hx x h; omega) (fun x h => by have := (hl.2 x h).1; omega) (by have := hl.1; omega) k (by have := hl.1; omega)]
    simp only [Option.bind_some]
    refine leaves_l1 (wout ns l) ns (fun f hf => hl.2 f (wout_mem hf)) (by have := wout_len ns l; have := hl.1; omega) hns hx (fun n hn => ?_) ns.length 0 k (by omega) (by omega)
    unfold allV
    rw [List.map_eq_nil_iff, List.filter_eq_nil_iff]
    intro f hf
    have := (List.mem_filter.1 hf).2
    intro hc
    simp only [isOf, List.any_cons, List.any_nil, Bool.or_false] at hc
    have h2 : isOf ns f = true := List.any_eq_true.2 ⟨n, hn, hc⟩
    rw [h2] at this
    cases this
  | succ d ih =>
    intro i k hi hk hx
    obtain ⟨k, rfl⟩ : ∃ j, k = j + 1 := ⟨k - 1, by omega⟩
    have hlt : i < ns.length := by omega
    have hwl := wout_len (ns.take i) l
    have hll := hl.1
    simp only [pantrylaw03_FieldLeaves.l0]
    rw [if_pos (by omega), if_pos (by omega), if_pos (by omega), rdB ns i hlt]
    by_cases hb : ((ns[i]).size : Int) > 100
    · rw [if_pos hb]
    · rw [if_neg hb, rwout_f ns[i] _ (by omega) (fun x h => by
        obtain ⟨f, hf, rfl⟩ := List.mem_map.1 h
        have := (hl.2 f (wout_mem hf)).1
        simp only [conv]
        omega) (by rw [List.length_map]; omega) k (by omega)]
      simp only [Option.bind_some]
      rw [rwout_conv, wout_snoc, w64n (by omega) (by omega)]
      have := ih (i + 1) k (by omega) (by omega) (fun x h => by
        rw [List.take_succ_eq_append_getElem hlt] at h
        rcases List.mem_append.1 h with h | h
        · exact hx x h
        · obtain rfl := List.mem_singleton.1 h
          omega)
      rw [show ((i + 1 : Nat) : Int) = (i : Int) + 1 by omega, List.take_succ_eq_append_getElem hlt] at this
      exact this
theorem law_FieldLeaves (l0 : List S39) (l1 : List ByteArray) (h0 : l0.length ≤ 9223372036854775807) : ∃ k, pantrylaw03_FieldLeaves.f k l0 l1 = some true := by
  refine ⟨l0.length + 10000, ?_⟩
  unfold pantrylaw03_FieldLeaves.f
  rw [anchor_ok _ (by omega)]
  simp only [Option.bind_some]
  rw [if_pos trivial]
  obtain ⟨b, hb, hs⟩ := small_eval l0 h0 (l0.length + 10000) (by omega)
  rw [hb]
  simp only [Option.bind_some]
  obtain ⟨k, hk⟩ : ∃ j, l0.length + 10000 = j + 1 := ⟨l0.length + 9999, by omega⟩
  cases b with
  | false => rw [if_neg (by simp), hk]; simp [pantrylaw03_FieldLeaves.j0]
  | true =>
    have hsm := hs rfl
    rw [if_pos rfl]
    by_cases hn : (l1.length : Int) > 20
    · rw [decide_eq_true hn, hk]; simp [pantrylaw03_FieldLeaves.j0]
    · rw [decide_eq_false hn, hk]
      simp only [pantrylaw03_FieldLeaves.j0]
      rw [if_neg (by simp), made_eval l0 (by have := hsm.1; omega) k (by omega)]
      simp only [Option.bind_some]
      have := leaves_l0 l0 l1 hsm (by omega) l1.length 0 k (by omega) (by omega) (fun x h => by simp at h)
      have hw : wout [] l0 = l0 := List.filter_eq_self.2 (fun x _ => rfl)
      rw [List.take_zero, hw] at this
      exact this

/-! ## FieldParts -/
theorem inter_app (sep : List UInt8) : ∀ (A B : List (List UInt8)), A ≠ [] → B ≠ [] → sep.intercalate (A ++ B) = sep.intercalate A ++ (sep ++ sep.intercalate B) := by
  intro A
  induction A with
  | nil => intro B h; exact absurd rfl h
  | cons x A ih =>
    intro B _ hB
    cases A with
    | nil =>
      cases B with
      | nil => exact absurd rfl hB
      | cons y ys => simp [List.intercalate]
    | cons z A =>
      have := ih B (by simp) hB
      have e1 : sep.intercalate (x :: z :: A) = x ++ (sep ++ sep.intercalate (z :: A)) := by simp [List.intercalate]
      have e2 : sep.intercalate (x :: z :: A ++ B) = x ++ (sep ++ sep.intercalate (z :: A ++ B)) := by simp [List.intercalate]
      rw [e1, e2, this]
      simp
def commaB : ByteArray := ⟨#[44, 32]⟩
def getB (n : ByteArray) (l : List S39) : ByteArray := ⟨(joinB (allV n l) commaB).toArray⟩
theorem getB_list (n : ByteArray) (l : List S39) : (getB n l).toList = joinB (allV n l) commaB := by
  rw [ByteArray.toList_eq]
  simp [getB]
theorem allV_app (n : ByteArray) (a b : List S39) : allV n (a ++ b) = allV n a ++ allV n b := by
  unfold allV
  rw [List.filter_append, List.map_append]
theorem joinB_app (A B : List ByteArray) (hA : A ≠ []) (hB : B ≠ []) : joinB (A ++ B) commaB = joinB A commaB ++ ([44, 32] ++ joinB B commaB) := by
  unfold joinB Lib.join
  rw [List.map_append]
  exact inter_app _ _ _ (by simpa using hA) (by simpa using hB)
theorem getB_size (n : ByteArray) (l : List S39) (h : SmallF l) : (getB n l).size ≤ 80000 := by
  have hle : (allV n l).length ≤ l.length := by
    unfold allV
    rw [List.length_map]
    exact List.length_filter_le _ _
  have := inter_len commaB.data.toList 1100 ((allV n l).map (·.data.toList)) (fun x hx => by
    obtain ⟨y, hy, rfl⟩ := List.mem_map.1 hx
    unfold allV at hy
    obtain ⟨f, hf, rfl⟩ := List.mem_map.1 hy
    have := (h.2 f (List.mem_filter.1 hf).1).2
    simpa using this)
  rw [List.length_map] at this
  have h2 : (commaB.data.toList).length = 2 := rfl
  rw [h2] at this
  have h3 : (allV n l).length * (1100 + 2) ≤ 70 * 1102 := Nat.mul_le_mul_right _ (by have := h.1; omega)
  have h4 : (getB n l).size = (joinB (allV n l) commaB).length := by
    show (joinB (allV n l) commaB).toArray.size = _
    simp
  rw [h4]
  show (List.intercalate _ _).length ≤ _
  omega
theorem words_l0 (a : List ByteArray) (hb : a.length ≤ 1000000) : ∀ (d i k : Nat), i + d = a.length → d < k → pantrylaw03_words.l0 k a a (a.length : Int) (i : Int) = some true := by
  intro d
  induction d with
  | zero =>
    intro i k hi hk
    obtain ⟨k, rfl⟩ : ∃ j, k = j + 1 := ⟨k - 1, by omega⟩
    simp only [pantrylaw03_words.l0]
    rw [if_neg (by omega)]
  | succ d ih =>
    intro i k hi hk
    obtain ⟨k, rfl⟩ : ∃ j, k = j + 1 := ⟨k - 1, by omega⟩
    simp only [pantrylaw03_words.l0]
    have := ih (i + 1) k (by omega) (by omega)
    rw [show ((i + 1 : Nat) : Int) = (i : Int) + 1 by omega] at this
    rw [if_pos (by omega), if_pos (by omega), if_pos (by omega), w64n (by omega) (by omega), this]
    simp
    omega
theorem words_eval (a : List ByteArray) (hb : a.length ≤ 1000000) (k : Nat) (hk : a.length < k) : pantrylaw03_words.f k a a = some true := by
  unfold pantrylaw03_words.f
  rw [if_pos rfl]
  exact words_l0 a hb a.length 0 k (by omega) hk
theorem law_FieldParts (l0 l1 : List S39) (a2 : ByteArray) (h0 : l0.length ≤ 9223372036854775807) (h1 : l1.length ≤ 9223372036854775807) : ∃ k, pantrylaw03_FieldParts.f k l0 l1 a2 = some true := by
  refine ⟨l0.length + l1.length + 10000, ?_⟩
  unfold pantrylaw03_FieldParts.f
  obtain ⟨k, hk⟩ : ∃ j, l0.length + l1.length + 10000 = j + 1 + 1 + 1 := ⟨l0.length + l1.length + 9997, by omega⟩
  rw [anchor_ok _ (by omega)]
  simp only [Option.bind_some]
  rw [if_pos trivial]
  obtain ⟨b, hb, hs⟩ := small_eval l0 h0 (l0.length + l1.length + 10000) (by omega)
  obtain ⟨b', hb', hs'⟩ := small_eval l1 h1 (l0.length + l1.length + 10000) (by omega)
  have jt : pantrylaw03_FieldParts.j0 (l0.length + l1.length + 10000) l0 l1 a2 true = some true := by rw [hk]; simp [pantrylaw03_FieldParts.j0]
  rw [hb]
  simp only [Option.bind_some]
  cases b with
  | false => rw [if_neg (by simp)]; exact jt
  | true =>
    rw [if_pos rfl, hb']
    simp only [Option.bind_some]
    cases b' with
    | false => rw [if_neg (by simp)]; exact jt
    | true =>
      rw [if_pos rfl]
      have s0 := hs rfl
      have s1 := hs' rfl
      by_cases hn : (a2.size : Int) > 100
      · rw [decide_eq_true hn]; exact jt
      · rw [decide_eq_false hn, hk]
        have z0 := s0.1
        have z1 := s1.1
        have g : ∀ (l : List S39), wsize l → l.length ≤ 140 → ∀ j, 5000 ≤ j → field_List_Get.f j l a2 = some (getB a2 l, decide (0 < (allV a2 l).length)) := fun l hw hl j hj => get_eval a2 l (by omega) hw (by omega) j (by omega)
        have hw : wsize (l0 ++ l1) := fun f hf => by
          rcases List.mem_append.1 hf with h | h
          · exact s0.2 f h
          · exact s1.2 f h
        have al : ∀ (l : List S39), wsize l → l.length ≤ 140 → ∀ j, 5000 ≤ j → field_List_All.f j l a2 = some (allV a2 l) := fun l hw hl j hj => all_eval a2 l (by omega) (fun x hx => by have := (hw x hx).1; omega) (by omega) j (by omega)
        have hl01 : (l0 ++ l1).length ≤ 140 := by rw [List.length_append]; omega
        have ll : ∀ (l : List S39), (allV a2 l).length ≤ l.length := fun l => by
          unfold allV
          rw [List.length_map]
          exact List.length_filter_le _ _
        have i0 := ll l0
        have i1 := ll l1
        have q0 := getB_size a2 l0 s0
        have q1 := getB_size a2 l1 s1
        simp only [pantrylaw03_FieldParts.j0]
        rw [if_neg (by simp)]
        simp only [Option.bind_some, List.nil_append, List.length_nil]
        rw [if_pos (by omega), if_pos (by omega), g _ hw hl01 _ (by omega), g _ s0.2 (by omega) _ (by omega), g _ s1.2 (by omega) _ (by omega)]
        simp only [Option.bind_some]
        rw [if_pos (by omega)]
        have j2 : ∀ (wt : ByteArray), wt.toList = (getB a2 (l0 ++ l1)).toList → pantrylaw03_FieldParts.j2 (k + 1) l0 l1 a2 (l0 ++ l1) (getB a2 (l0 ++ l1)) (decide (0 < (allV a2 (l0 ++ l1)).length)) (decide (0 < (allV a2 l0).length)) (decide (0 < (allV a2 l1).length)) wt = some true := by
          intro wt hwt
          simp only [pantrylaw03_FieldParts.j2]
          rw [al _ hw hl01 _ (by omega), al _ s0.2 (by omega) _ (by omega), al _ s1.2 (by omega) _ (by omega)]
          simp only [Option.bind_some]
          rw [if_pos (by omega), allV_app, words_eval _ (by rw [List.length_append]; omega) _ (by rw [List.length_append]; omega)]
          simp only [Option.bind_some]
          rw [if_pos trivial, hwt]
          have e : (decide (0 < (allV a2 l0 ++ allV a2 l1).length)) = (decide (0 < (allV a2 l0).length) || decide (0 < (allV a2 l1).length)) := by
            rw [Bool.eq_iff_iff, Bool.or_eq_true, decide_eq_true_eq, decide_eq_true_eq, decide_eq_true_eq, List.length_append]
            omega
          rw [e]
          cases decide (0 < (allV a2 l0).length) <;> cases decide (0 < (allV a2 l1).length) <;> simp
        have e0 : (allV a2 l0).length = 0 → getB a2 l0 = ⟨#[]⟩ := fun h => by
          unfold getB
          rw [List.eq_nil_of_length_eq_zero h]
          rfl
        have e1 : (allV a2 l1).length = 0 → getB a2 l1 = ⟨#[]⟩ := fun h => by
          unfold getB
          rw [List.eq_nil_of_length_eq_zero h]
          rfl
        have plain : ∀ b : Bool, b = false → ((allV a2 l0).length = 0 ∨ (allV a2 l1).length = 0) → pantrylaw03_FieldParts.j1 (k + 1 + 1) l0 l1 a2 (l0 ++ l1) (getB a2 (l0 ++ l1)) (decide (0 < (allV a2 (l0 ++ l1)).length)) (getB a2 l0) (decide (0 < (allV a2 l0).length)) (getB a2 l1) (decide (0 < (allV a2 l1).length)) (getB a2 l0 ++ getB a2 l1) b = some true := by
          rintro b rfl h
          simp only [pantrylaw03_FieldParts.j1]
          rw [if_neg (by simp)]
          refine j2 _ ?_
          rw [getB_list, allV_app]
          rcases h with h | h
          · rw [e0 h, List.eq_nil_of_length_eq_zero h, List.nil_append, ← getB_list]
            rw [ByteArray.toList_eq, ByteArray.toList_eq]
            simp
          · rw [e1 h, List.eq_nil_of_length_eq_zero h, List.append_nil, ← getB_list]
            rw [ByteArray.toList_eq, ByteArray.toList_eq]
            simp
        by_cases p0 : 0 < (allV a2 l0).length
        · rw [if_pos (by simpa using p0)]
          by_cases p1 : 0 < (allV a2 l1).length
          · simp only [pantrylaw03_FieldParts.j1]
            rw [if_pos (by simpa using p1), if_pos (by omega), if_pos (by rw [ByteArray.size_append]; have : (⟨#[44, 32]⟩ : ByteArray).size = 2 := rfl; omega)]
            refine j2 _ ?_
            rw [getB_list, allV_app, joinB_app _ _ (by intro h; rw [h] at p0; simp at p0) (by intro h; rw [h] at p1; simp at p1), ByteArray.toList_eq]
            have r0 := getB_list a2 l0
            have r1 := getB_list a2 l1
            rw [ByteArray.toList_eq] at r0 r1
            rw [← r0, ← r1]
            simp
          · exact plain _ (decide_eq_false p1) (.inr (by omega))
        · rw [if_neg (by simpa using p0)]
          exact plain false rfl (.inl (by omega))

end Go.Proofs.YtmncflihmigdmaaDoor.PAll
