import Derived.Test.YtmncflihmigdmaaDoorPAllx0
import Derived.Test.YtmncflihmigdmaaDoorPAllx1
import Derived.Test.YtmncflihmigdmaaDoorPAllx2
import Derived.Test.YtmncflihmigdmaaDoorPAllx3
import Derived.Test.YtmncflihmigdmaaDoorPAllx4
import Derived.Test.YtmncflihmigdmaaDoorPAllx5
import Derived.Test.YtmncflihmigdmaaDoorPAllx6
import Derived.Test.YtmncflihmigdmaaDoorPAllx7
import Derived.Test.YtmncflihmigdmaaDoorPAllx8
import Derived.Lib.Join
namespace Go.Proofs.YtmncflihmigdmaaDoor.PAll
open Go.RowKit Go.Proofs.YtmncflihmigdmaaDoorW.PrintWords Go.Proofs.YtmncflihmigdmaaDoorW.PrintLast Go.Proofs.YtmncflihmigdmaaDoorW.PrintMore
set_option linter.unusedVariables false
set_option linter.unusedSimpArgs false

/-! ## Fields, as lists -/
theorem anchor60 : pantrylaw03_anchor.f 60 = some true := by decide +kernel
theorem anchor_ok (k : Nat) (hk : 60 ≤ k) : pantrylaw03_anchor.f k = some true := by
  obtain ⟨j, rfl⟩ : ∃ j, k = 60 + j := ⟨k - 60, by omega⟩
  clear hk
  induction j with
  | zero => exact anchor60
  | succ j ih => exact pantrylaw03_anchor.mono _ _ ih
theorem rd39 (l : List S39) (i : Nat) (h : i < l.length) : rd_T39 l (i : Int) = l[i] := by simp [rd_T39, h]
theorem rdB (l : List ByteArray) (i : Nat) (h : i < l.length) : rdOf ByteArray.empty l (i : Int) = l[i] := by simp [rdOf, h]
def SmallF (l : List S39) : Prop := l.length ≤ 70 ∧ ∀ f ∈ l, f.f0.size ≤ 200 ∧ f.f1.size ≤ 1100
theorem small_l0 (l : List S39) (hl : l.length ≤ 9223372036854775807) : ∀ (d i k : Nat), i + d = l.length → d < k →
    ∃ b, pantrylaw03_small.l0 k l l (l.length : Int) (i : Int) = some b ∧ (b = true → l.length ≤ 70 ∧ ∀ f ∈ l.drop i, f.f0.size ≤ 200 ∧ f.f1.size ≤ 1100) := by
  intro d
  induction d with
  | zero =>
    intro i k hi hk
    obtain ⟨k, rfl⟩ : ∃ j, k = j + 1 := ⟨k - 1, by omega⟩
    simp only [pantrylaw03_small.l0]
    rw [if_neg (by omega)]
    refine ⟨_, rfl, fun h => ?_⟩
    have := of_decide_eq_true h
    rw [List.drop_of_length_le (by omega)]
    exact ⟨by omega, fun f hf => by cases hf⟩
  | succ d ih =>
    intro i k hi hk
    obtain ⟨k, rfl⟩ : ∃ j, k = j + 1 := ⟨k - 1, by omega⟩
    have hlt : i < l.length := by omega
    simp only [pantrylaw03_small.l0]
    rw [if_pos (by omega), if_pos (by omega), if_pos (by omega), rd39 l i hlt]
    by_cases h1 : ((l[i].f0).size : Int) > 200
    · rw [if_pos h1]; exact ⟨false, rfl, fun h => by cases h⟩
    · rw [if_neg h1]
      by_cases h2 : ((l[i].f1).size : Int) > 1100
      · rw [if_pos h2]; exact ⟨false, rfl, fun h => by cases h⟩
      · rw [if_neg h2, w64n (by omega) (by omega)]
        obtain ⟨b, hb, hs⟩ := ih (i + 1) k (by omega) (by omega)
        refine ⟨b, hb, fun h => ?_⟩
        obtain ⟨h3, h4⟩ := hs h
        refine ⟨h3, fun f hf => ?_⟩
        rw [List.drop_eq_getElem_cons hlt] at hf
        rcases List.mem_cons.1 hf with rfl | hf
        · exact ⟨by omega, by omega⟩
        · exact h4 f hf
theorem small_eval (l : List S39) (hl : l.length ≤ 9223372036854775807) (k : Nat) (hk : l.length < k) : ∃ b, pantrylaw03_small.f k l = some b ∧ (b = true → SmallF l) := by
  obtain ⟨b, hb, hs⟩ := small_l0 l hl l.length 0 k (by omega) hk
  exact ⟨b, hb, fun h => by simpa [SmallF] using hs h⟩

theorem rd36 (l : List S36) (i : Nat) (h : i < l.length) : rd_T36 l (i : Int) = l[i] := by simp [rd_T36, h]
def conv (f : S39) : S36 := ⟨f.f0, f.f1⟩
theorem conv_inj {f g : S39} (h : conv f = conv g) : f = g := by
  cases f; cases g
  simp only [conv, S36.mk.injEq] at h
  rw [h.1, h.2]
theorem made_l0 (l : List S39) (hl : l.length < 4398046511104) : ∀ (d i : Nat) (acc : List S36) (k : Nat), i + d = l.length → acc.length ≤ i → d < k →
    pantrymade_Fields.l0 k acc l (l.length : Int) (i : Int) = some (acc ++ (l.drop i).map conv) := by
  intro d
  induction d with
  | zero =>
    intro i acc k hi ha hk
    obtain ⟨k, rfl⟩ : ∃ j, k = j + 1 := ⟨k - 1, by omega⟩
    simp only [pantrymade_Fields.l0]
    rw [if_neg (by omega), List.drop_of_length_le (by omega)]
    simp
  | succ d ih =>
    intro i acc k hi ha hk
    obtain ⟨k, rfl⟩ : ∃ j, k = j + 1 := ⟨k - 1, by omega⟩
    have hlt : i < l.length := by omega
    simp only [pantrymade_Fields.l0]
    rw [if_pos (by omega), if_pos (by omega), if_pos (by omega), if_pos (by omega), rd39 l i hlt, w64n (by omega) (by omega)]
    have := ih (i + 1) (acc ++ [conv l[i]]) k (by omega) (by simp; omega) (by omega)
    rw [show ((i + 1 : Nat) : Int) = (i : Int) + 1 by omega] at this
    rw [List.drop_eq_getElem_cons hlt, List.map_cons, ← List.singleton_append (x := conv l[i]), ← List.append_assoc]
    exact this
theorem made_eval (l : List S39) (hl : l.length < 4398046511104) (k : Nat) (hk : l.length < k) : pantrymade_Fields.f k l = some (l.map conv) := by
  unfold pantrymade_Fields.f
  have := made_l0 l hl l.length 0 [] k (by omega) (by simp) hk
  simpa using this

/-! The reference's small letters -/
def lowI (x : Int) : Int := if x ≥ 65 ∧ x ≤ 90 then (x + 32) % 256 else x
theorem bt_at2 (s : ByteArray) (i : Nat) (h : i < s.data.toList.length) : bt s (i : Int) = ((s.data.toList[i]).toNat : Int) := by
  have h' : i < s.size := by simpa using h
  unfold bt
  simp only [Int.toNat_natCast]
  rw [dif_pos h']
  rfl
theorem lowI_u8 (c : UInt8) : UInt8.ofNat (lowI (c.toNat : Int)).toNat = lowU c := by
  have := c.toNat_lt
  unfold lowI lowU
  by_cases h : 65 ≤ c.toNat ∧ c.toNat ≤ 90
  · rw [if_pos (by omega), if_pos h]
    congr 1
    omega
  · rw [if_neg (by omega), if_neg h]
    simp
theorem rlow_l0 (s : ByteArray) (hs : s.size ≤ 140737488351232) : ∀ (d i : Nat) (acc : List Int) (k : Nat), i + d = s.size → acc.length ≤ i → d < k →
    pantryref01_Lower.l0 k s acc (i : Int) = some (strOfNums (acc ++ (s.data.toList.drop i).map fun c => lowI (c.toNat : Int))) := by
  intro d
  induction d with
  | zero =>
    intro i acc k hi ha hk
    obtain ⟨k, rfl⟩ : ∃ j, k = j + 1 := ⟨k - 1, by omega⟩
    have hz : s.data.toList.length = s.size := by simp
    simp only [pantryref01_Lower.l0]
    rw [if_neg (by omega), List.drop_of_length_le (by omega)]
    simp
  | succ d ih =>
    intro i acc k hi ha hk
    obtain ⟨k, rfl⟩ : ∃ j, k = j + 1 := ⟨k - 1, by omega⟩
    have hz : s.data.toList.length = s.size := by simp
    have hlt : i < s.data.toList.length := by omega
    simp only [pantryref01_Lower.l0]
    rw [if_pos (by omega), if_pos (by omega), bt_at2 s i hlt, w64n (by omega) (by omega)]
    have hc := (s.data.toList[i]).toNat_lt
    rw [List.drop_eq_getElem_cons hlt, List.map_cons]
    have step : ∀ x : Int, lowI ((s.data.toList[i]).toNat : Int) = x → pantryref01_Lower.l0 k s (acc ++ [x]) ((i : Int) + 1) = some (strOfNums (acc ++ lowI ((s.data.toList[i]).toNat : Int) :: (s.data.toList.drop (i + 1)).map fun c => lowI (c.toNat : Int))) := by
      rintro x rfl
      have := ih (i + 1) (acc ++ [lowI ((s.data.toList[i]).toNat : Int)]) k (by omega) (by simp; omega) (by omega)
      rw [show ((i + 1 : Nat) : Int) = (i : Int) + 1 by omega] at this
      rw [this, List.append_assoc]
      rfl
    by_cases h1 : ((s.data.toList[i]).toNat : Int) ≥ 65
    · rw [if_pos h1]
      by_cases h2 : ((s.data.toList[i]).toNat : Int) ≤ 90
      · rw [if_pos h2, if_pos (by omega)]
        exact step _ (by unfold lowI; rw [if_pos ⟨h1, h2⟩])
      · rw [if_neg h2, if_pos (by omega)]
        exact step _ (by unfold lowI; rw [if_neg (by omega)])
    · rw [if_neg h1, if_pos (by omega)]
      exact step _ (by unfold lowI; rw [if_neg (by omega)])
theorem rlow_eval (s : ByteArray) (hs : s.size ≤ 140737488351232) (k : Nat) (hk : s.size < k) : pantryref01_Lower.f k s = some (lowB s) := by
  unfold pantryref01_Lower.f
  have := rlow_l0 s hs s.size 0 [] k (by omega) (by simp) hk
  rw [show ((0 : Nat) : Int) = 0 from rfl] at this
  rw [this]
  congr 1
  unfold strOfNums lowB lowL
  simp only [List.nil_append, List.drop_zero, List.map_map]
  congr 2
  apply List.map_congr_left
  intro c _
  exact lowI_u8 c
theorem lowB_list (s : ByteArray) : (lowB s).data.toList = lowL s.data.toList := by simp [lowB]

theorem is_eval (f v n : ByteArray) (hf : f.size ≤ 140737488351232) (hn : n.size ≤ 140737488351232) (k : Nat) (hk : f.size < k) (hk2 : n.size < k) : pantryref03_Field_Is.f k f v n = some (sameB n f) := by
  unfold pantryref03_Field_Is.f
  rw [rlow_eval f hf k hk, rlow_eval n hn k hk2]
  simp only [Option.bind_some]
  congr 1
  unfold sameB
  rw [ByteArray.toList_eq, ByteArray.toList_eq, Bool.eq_iff_iff, beq_iff_eq, beq_iff_eq]
  simp only [lowB]
  exact eq_comm

/-! ## All, Get, Same -/
def allV (n : ByteArray) (l : List S39) : List ByteArray := (l.filter (isOf [n])).map (·.f1)
theorem all_l0 (n : ByteArray) (l : List S39) (hn : n.size ≤ 140737488351232) (hl : ∀ x ∈ l, x.f0.size ≤ 140737488351232) (hlen : l.length < 4398046511104) :
    ∀ (d i : Nat) (acc : List ByteArray) (k : Nat), i + d = l.length → acc.length ≤ i → d < k →
    field_List_All.l0 k n acc l (l.length : Int) (i : Int) = some (acc ++ allV n (l.drop i)) := by
  intro d
  induction d with
  | zero =>
    intro i acc k hi ha hk
    obtain ⟨k, rfl⟩ : ∃ j, k = j + 1 := ⟨k - 1, by omega⟩
    simp only [field_List_All.l0]
    rw [if_neg (by omega), List.drop_of_length_le (by omega)]
    simp [allV]
  | succ d ih =>
    intro i acc k hi ha hk
    obtain ⟨k, rfl⟩ : ∃ j, k = j + 1 := ⟨k - 1, by omega⟩
    have hlt : i < l.length := by omega
    simp only [field_List_All.l0]
    rw [if_pos (by omega), if_pos (by omega), if_pos (by omega), rd39 l i hlt]
    unfold field_Field_named.f
    rw [if_pos ⟨hl _ (List.getElem_mem hlt), by simp, by simpa using hn⟩]
    simp only [Option.bind_some]
    rw [List.drop_eq_getElem_cons hlt, w64n (by omega) (by omega)]
    by_cases hs : isOf [n] l[i] = true
    · have hs' : ([n].any fun n => sameB n l[i].f0) = true := hs
      rw [if_pos hs', if_pos (by omega)]
      have := ih (i + 1) (acc ++ [l[i].f1]) k (by omega) (by simp; omega) (by omega)
      rw [show ((i + 1 : Nat) : Int) = (i : Int) + 1 by omega] at this
      rw [this]
      unfold allV
      rw [List.filter_cons_of_pos hs, List.append_assoc]
      rfl
    · have hs' : ¬ ([n].any fun n => sameB n l[i].f0) = true := hs
      rw [if_neg hs']
      have := ih (i + 1) acc k (by omega) (by omega) (by omega)
      rw [show ((i + 1 : Nat) : Int) = (i : Int) + 1 by omega] at this
      rw [this]
      unfold allV
      rw [List.filter_cons_of_neg hs]
theorem all_eval (n : ByteArray) (l : List S39) (hn : n.size ≤ 140737488351232) (hl : ∀ x ∈ l, x.f0.size ≤ 140737488351232) (hlen : l.length < 4398046511104) (k : Nat) (hk : l.length < k) : field_List_All.f k l n = some (allV n l) := by
  unfold field_List_All.f
  have := all_l0 n l hn hl hlen l.length 0 [] k (by omega) (by simp) hk
  simpa using this
theorem inter_len (sep : List UInt8) (M : Nat) : ∀ (xs : List (List UInt8)), (∀ x ∈ xs, x.length ≤ M) → (sep.intercalate xs).length ≤ xs.length * (M + sep.length) := by
  intro xs
  induction xs with
  | nil => intro _; simp [List.intercalate]
  | cons x xs ih =>
    intro h
    have h1 := h x (by simp)
    have h2 := ih (fun y hy => h y (by simp [hy]))
    cases xs with
    | nil => simp [List.intercalate]; omega
    | cons y ys =>
      have e : sep.intercalate (x :: y :: ys) = x ++ (sep ++ sep.intercalate (y :: ys)) := by simp [List.intercalate]
      rw [e]
      simp only [List.length_append, List.length_cons, Nat.add_mul, Nat.one_mul] at *
      omega
theorem get_eval (n : ByteArray) (l : List S39) (hn : n.size ≤ 140737488351232) (hs : ∀ x ∈ l, x.f0.size ≤ 200 ∧ x.f1.size ≤ 1100) (hlen : l.length ≤ 1000000) (k : Nat) (hk : l.length < k) :
    field_List_Get.f k l n = some (⟨(joinB (allV n l) ⟨#[44, 32]⟩).toArray⟩, decide (0 < (allV n l).length)) := by
  unfold field_List_Get.f
  rw [all_eval n l hn (fun x hx => by have := (hs x hx).1; omega) (by omega) k hk]
  simp only [Option.bind_some]
  have hle : (allV n l).length ≤ l.length := by
    unfold allV
    rw [List.length_map]
    exact List.length_filter_le _ _
  have hok : joinOk (allV n l) ⟨#[44, 32]⟩ := by
    refine ⟨by omega, ?_⟩
    unfold joinB Lib.join
    have := inter_len (⟨#[44, 32]⟩ : ByteArray).data.toList 1100 ((allV n l).map (·.data.toList)) (fun x hx => by
      obtain ⟨y, hy, rfl⟩ := List.mem_map.1 hx
      unfold allV at hy
      obtain ⟨f, hf, rfl⟩ := List.mem_map.1 hy
      have := (hs f (List.mem_filter.1 hf).1).2
      simpa using this)
    rw [List.length_map] at this
    have h2 : ((⟨#[44, 32]⟩ : ByteArray).data.toList).length = 2 := rfl
    rw [h2] at this
    have : (allV n l).length * (1100 + 2) ≤ 1000000 * 1102 := Nat.mul_le_mul_right _ (by omega)
    omega
  unfold strings_Join.f
  rw [if_pos hok]
  simp only [Option.bind_some]
  congr 2
  rw [decide_eq_decide]
  omega

theorem same_l0 (a : List S36) (hb : a.length ≤ 1000000) : ∀ (d i k : Nat), i + d = a.length → d < k → pantryref03_Same.l0 k a a (i : Int) = some true := by
  intro d
  induction d with
  | zero =>
    intro i k hi hk
    obtain ⟨k, rfl⟩ : ∃ j, k = j + 1 := ⟨k - 1, by omega⟩
    simp only [pantryref03_Same.l0]
    rw [if_neg (by omega)]
  | succ d ih =>
    intro i k hi hk
    obtain ⟨k, rfl⟩ : ∃ j, k = j + 1 := ⟨k - 1, by omega⟩
    simp only [pantryref03_Same.l0]
    rw [if_pos (by omega), if_pos (by omega), if_pos (by omega), w64n (by omega) (by omega)]
    have := ih (i + 1) k (by omega) (by omega)
    rw [show ((i + 1 : Nat) : Int) = (i : Int) + 1 by omega] at this
    rw [if_neg (by simp), this]
theorem same_eval (a : List S36) (hb : a.length ≤ 1000000) (k : Nat) (hk : a.length < k) : pantryref03_Same.f k a a = some true := by
  unfold pantryref03_Same.f
  rw [if_pos rfl]
  exact same_l0 a hb a.length 0 k (by omega) hk

/-! ## FieldParts -/
theorem inter_app (sep : List UInt8) : ∀ (A B : List (List UInt8)), A ≠ [] → B ≠ [] → sep.intercalate (A ++ B) = sep.intercalate A ++ (sep ++ sep.intercalate B) := by
  intro A
  induction A with
  | nil => intro B h; exact absurd rfl h
  | cons x A ih =>
    intro B _ hB
    cases A with
    | nil =>
      cases B with
      | nil => exact absurd rfl hB
      | cons y ys => simp [List.intercalate]
    | cons z A =>
      have := ih B (by simp) hB
      have e1 : sep.intercalate (x :: z :: A) = x ++ (sep ++ sep.intercalate (z :: A)) := by simp [List.intercalate]
      have e2 : sep.intercalate (x :: z :: A ++ B) = x ++ (sep ++ sep.intercalate (z :: A ++ B)) := by simp [List.intercalate]
      rw [e1, e2, this]
      simp
def commaB : ByteArray := ⟨#[44, 32]⟩
def getB (n : ByteArray) (l : List S39) : ByteArray := ⟨(joinB (allV n l) commaB).toArray⟩
theorem getB_list (n : ByteArray) (l : List S39) : (getB n l).toList = joinB (allV n l) commaB := by
  rw [ByteArray.toList_eq]
  simp [getB]
theorem allV_app (n : ByteArray) (a b : List S39) : allV n (a ++ b) = allV n a ++ allV n b := by
  unfold allV
  rw [List.filter_append, List.map_append]
theorem joinB_app (A B : List ByteArray) (hA : A ≠ []) (hB : B ≠ []) : joinB (A ++ B) commaB = joinB A commaB ++ ([44, 32] ++ joinB B commaB) := by
  unfold joinB Lib.join
  rw [List.map_append]
  exact inter_app _ _ _ (by simpa using hA) (by simpa using hB)
theorem getB_size (n : ByteArray) (l : List S39) (h : SmallF l) : (getB n l).size ≤ 80000 := by
  have hle : (allV n l).length ≤ l.length := by
    unfold allV
    rw [List.length_map]
    exact List.length_filter_le _ _
  have := inter_len commaB.data.toList 1100 ((allV n l).map (·.data.toList)) (fun x hx => by
    obtain ⟨y, hy, rfl⟩ := List.mem_map.1 hx
    unfold allV at hy
    obtain ⟨f, hf, rfl⟩ := List.mem_map.1 hy
    have := (h.2 f (List.mem_filter.1 hf).1).2
    simpa using this)
  rw [List.length_map] at this
  have h2 : (commaB.data.toList).length = 2 := rfl
  rw [h2] at this
  have h3 : (allV n l).length * (1100 + 2) ≤ 70 * 1102 := Nat.mul_le_mul_right _ (by have := h.1; omega)
  have h4 : (getB n l).size = (joinB (allV n l) commaB).length := by
    show (joinB (allV n l) commaB).toArray.size = _
    simp
  rw [h4]
  show (List.intercalate _ _).length ≤ _
  omega

/-! ## With -/
theorem with_ok (l0 l1 : List S39) (s0 : SmallF l0) (s1 : SmallF l1) : withOk l0 l1 :=
  ⟨by have := s0.1; have := s1.1; omega, fun x h => by have := (s0.2 x h).1; omega, fun x h => by have := (s1.2 x h).1; omega⟩
theorem withAll_len (l1 : List S39) : ∀ l0 : List S39, (withAll l0 l1).length ≤ l0.length + l1.length := by
  induction l1 with
  | nil => intro l0; simp [withAll]
  | cons f l1 ih =>
    intro l0
    have h1 := withOne_len l0 f
    have h2 := ih (withOne l0 f)
    have e : withAll l0 (f :: l1) = withAll (withOne l0 f) l1 := rfl
    rw [e, List.length_cons]
    omega
theorem withAll_mem (l1 : List S39) : ∀ (l0 : List S39) (x : S39), x ∈ withAll l0 l1 → x ∈ l0 ∨ x ∈ l1 := by
  induction l1 with
  | nil => intro l0 x h; exact .inl h
  | cons f l1 ih =>
    intro l0 x h
    have e : withAll l0 (f :: l1) = withAll (withOne l0 f) l1 := rfl
    rw [e] at h
    rcases ih _ _ h with h | h
    · rcases withOne_mem _ _ _ h with h | rfl
      · exact .inl h
      · exact .inr (by simp)
    · exact .inr (by simp [h])

theorem sameB_refl (a : ByteArray) : sameB a a = true := by unfold sameB; simp
theorem sameB_comm (a b : ByteArray) : sameB a b = sameB b a := by
  unfold sameB
  rw [Bool.eq_iff_iff, beq_iff_eq, beq_iff_eq]
  exact eq_comm
theorem sameB_trans {a b c : ByteArray} (h1 : sameB a b = true) (h2 : sameB b c = true) : sameB a c = true := by
  unfold sameB at *
  rw [beq_iff_eq] at *
  rw [h1, h2]
def goW (f : S39) : Bool → List S39 → List S39
  | dn, [] => if dn = true then [] else [f]
  | dn, x :: l => if sameB f.f0 x.f0 = true then (if dn = true then goW f true l else f :: goW f true l) else x :: goW f dn l
theorem goW_true (f : S39) (l : List S39) : goW f true l = wout [f.f0] l := by
  induction l with
  | nil => rfl
  | cons x l ih =>
    unfold goW wout
    by_cases h : sameB f.f0 x.f0 = true
    · rw [if_pos h, if_pos rfl, List.filter_cons_of_neg (by simp [isOf, h]), ih]
      rfl
    · rw [if_neg h, List.filter_cons_of_pos (by simp [isOf, h]), ih]
      rfl
theorem goW_one (f : S39) (l : List S39) : goW f false l = withOne l f := by
  induction l with
  | nil => rfl
  | cons x l ih =>
    unfold goW
    by_cases h : sameB f.f0 x.f0 = true
    · rw [if_pos h, if_neg (by simp), goW_true]
      unfold withOne
      rw [if_pos (by simp [h]), List.findIdx_cons, h]
      rfl
    · rw [if_neg h, ih]
      have h' : sameB f.f0 x.f0 = false := by simpa using h
      unfold withOne
      rw [List.any_cons, h', Bool.false_or, List.findIdx_cons, h']
      by_cases ha : (l.any fun o => sameB f.f0 o.f0) = true
      · rw [if_pos ha, if_pos ha]
        rfl
      · rw [if_neg ha, if_neg ha]
        rfl
theorem rwith_l0 (f : S39) (hf : f.f0.size ≤ 1000) (l : List S39) (hl : ∀ x ∈ l, x.f0.size ≤ 1000) (hlen : l.length ≤ 1000) : ∀ (d i : Nat) (acc : List S36) (dn : Bool) (k : Nat), i + d = l.length → acc.length ≤ i → d + 1001 < k →
    pantryref03_With.l0 k (l.map conv) acc dn (i : Int) f.f0 f.f1 = some (acc ++ (goW f dn (l.drop i)).map conv) := by
  intro d
  induction d with
  | zero =>
    intro i acc dn k hi ha hk
    obtain ⟨k, rfl⟩ : ∃ j, k = j + 1 := ⟨k - 1, by omega⟩
    simp only [pantryref03_With.l0]
    rw [if_neg (by rw [List.length_map]; omega), List.drop_of_length_le (by omega)]
    cases dn with
    | true => rw [if_pos rfl]; simp [goW]
    | false => rw [if_neg (by simp), if_pos (by omega)]; rfl
  | succ d ih =>
    intro i acc dn k hi ha hk
    obtain ⟨k, rfl⟩ : ∃ j, k = j + 1 := ⟨k - 1, by omega⟩
    have hlt : i < l.length := by omega
    have hx := hl _ (List.getElem_mem hlt)
    have nx : ∀ (acc : List S36) (dn : Bool), acc.length ≤ i + 1 → pantryref03_With.l0 k (l.map conv) acc dn ((i : Int) + 1) f.f0 f.f1 = some (acc ++ (goW f dn (l.drop (i + 1))).map conv) := fun acc dn h => by
      have := ih (i + 1) acc dn k (by omega) h (by omega)
      rwa [show ((i + 1 : Nat) : Int) = (i : Int) + 1 by omega] at this
    have e : pantryref03_Field_Is.f k (conv l[i]).f0 (conv l[i]).f1 f.f0 = some (sameB f.f0 l[i].f0) := is_eval _ _ f.f0 (by simp only [conv]; omega) (by omega) k (by simp only [conv]; omega) (by omega)
    simp only [pantryref03_With.l0]
    rw [if_pos (by rw [List.length_map]; omega), if_pos (by omega), rd36 _ i (by rw [List.length_map]; omega), List.getElem_map, e, List.drop_eq_getElem_cons hlt, w64n (by omega) (by omega)]
    simp only [Option.bind_some]
    rw [goW]
    cases hs : sameB f.f0 l[i].f0 with
    | true =>
      rw [if_pos rfl, if_pos rfl]
      cases dn with
      | true => rw [if_pos rfl, if_pos rfl, nx _ _ (by omega)]
      | false =>
        rw [if_neg (by simp), if_pos (by omega), if_neg (by simp), nx _ _ (by simp; omega), List.append_assoc]
        rfl
    | false =>
      rw [if_neg (by simp), if_pos (by omega), if_neg (by simp), nx _ _ (by simp; omega), List.append_assoc]
      rfl
theorem rwith_eval (f : S39) (hf : f.f0.size ≤ 1000) (l : List S39) (hl : ∀ x ∈ l, x.f0.size ≤ 1000) (hlen : l.length ≤ 1000) (k : Nat) (hk : 3000 < k) : pantryref03_With.f k (l.map conv) f.f0 f.f1 = some ((withOne l f).map conv) := by
  unfold pantryref03_With.f
  have := rwith_l0 f hf l hl hlen l.length 0 [] false k (by omega) (by simp) (by omega)
  rw [List.drop_zero, goW_one] at this
  exact this
theorem filt_set (f : S39) (l : List S39) : ∀ dn, (goW f dn l).filter (isOf [f.f0]) = if dn = true then [] else [f] := by
  have hf : isOf [f.f0] f = true := by simp [isOf, sameB_refl]
  induction l with
  | nil =>
    intro dn
    cases dn with
    | true => rfl
    | false => rw [goW, if_neg (by simp), List.filter_cons_of_pos hf]; rfl
  | cons x l ih =>
    intro dn
    rw [goW]
    by_cases h : sameB f.f0 x.f0 = true
    · rw [if_pos h]
      cases dn with
      | true => rw [if_pos rfl, ih true]
      | false => rw [if_neg (by simp), List.filter_cons_of_pos hf, ih true]; rfl
    · rw [if_neg h, List.filter_cons_of_neg (by simp [isOf, h]), ih dn]
theorem filt_other (f g : S39) (hg : sameB f.f0 g.f0 = false) (l : List S39) : ∀ dn, (goW g dn l).filter (isOf [f.f0]) = l.filter (isOf [f.f0]) := by
  have hf : ¬ isOf [f.f0] g = true := by simp [isOf, hg]
  induction l with
  | nil =>
    intro dn
    cases dn with
    | true => rfl
    | false => rw [goW, if_neg (by simp), List.filter_cons_of_neg hf]
  | cons x l ih =>
    intro dn
    rw [goW]
    by_cases h : sameB g.f0 x.f0 = true
    · have hx : ¬ isOf [f.f0] x = true := by
        simp only [isOf, List.any_cons, List.any_nil, Bool.or_false]
        intro hc
        have := sameB_trans hc (by rw [sameB_comm]; exact h)
        rw [this] at hg
        cases hg
      rw [if_pos h, List.filter_cons_of_neg hx]
      cases dn with
      | true => rw [if_pos rfl, ih true]
      | false => rw [if_neg (by simp), List.filter_cons_of_neg hf, ih true]
    · rw [if_neg h]
      by_cases hx : isOf [f.f0] x = true
      · rw [List.filter_cons_of_pos hx, List.filter_cons_of_pos hx, ih dn]
      · rw [List.filter_cons_of_neg hx, List.filter_cons_of_neg hx, ih dn]
theorem filt_all (f : S39) : ∀ (B l : List S39), (∀ g ∈ B, sameB f.f0 g.f0 = false) → (withAll l B).filter (isOf [f.f0]) = l.filter (isOf [f.f0]) := by
  intro B
  induction B with
  | nil => intro l _; rfl
  | cons g B ih =>
    intro l h
    have e : withAll l (g :: B) = withAll (withOne l g) B := rfl
    rw [e, ih _ (fun x hx => h x (by simp [hx])), ← goW_one, filt_other f g (h g (by simp))]
theorem filt_last (l more : List S39) (i : Nat) (h : i < more.length) (hl : ∀ g ∈ more.drop (i + 1), sameB more[i].f0 g.f0 = false) : allV more[i].f0 (withAll l more) = [more[i].f1] := by
  unfold allV
  have e : withAll l more = withAll (withOne (withAll l (more.take i)) more[i]) (more.drop (i + 1)) := by
    have : more = more.take i ++ (more[i] :: more.drop (i + 1)) := by rw [← List.drop_eq_getElem_cons h, List.take_append_drop]
    have h2 : withAll l (more.take i ++ (more[i] :: more.drop (i + 1))) = withAll (withOne (withAll l (more.take i)) more[i]) (more.drop (i + 1)) := by
      unfold withAll
      rw [List.foldl_append]
      rfl
    exact (congrArg (withAll l) this).trans h2
  rw [e, filt_all _ _ _ hl, ← goW_one, filt_set, if_neg (by simp)]
  rfl

/-! ## FieldSets -/
theorem lowne (a b : ByteArray) : ((lowB a).toList != (lowB b).toList) = !sameB a b := by
  rw [ByteArray.toList_eq, ByteArray.toList_eq, lowB_list, lowB_list]
  rfl
theorem sets_l2 (x1 : List S39) (x5 : List S36) (m y : List S39) (i : Nat) (f : S39) (hf : f.f0.size ≤ 200 ∧ f.f1.size ≤ 1100) (hy : y.length ≤ 1000) (hyx : ∀ x ∈ y, x.f0.size ≤ 200) (hm : ∀ x ∈ m, x.f0.size ≤ 200 ∧ x.f1.size ≤ 1100) (hml : m.length ≤ 1000) (hi : i ≤ 1000)
    (hlast : (∀ g ∈ y, sameB f.f0 g.f0 = false) → allV f.f0 m = [f.f1]) (B : Nat) (nx : ∀ kk, B < kk → pantrylaw03_FieldSets.l1 kk x1 x5 m x1 (x1.length : Int) ((i : Int) + 1) = some true) :
    ∀ (d j k : Nat) (b : Bool), j + d = y.length → d + B + 2000 < k → (b = true → ∀ g ∈ y.take j, sameB f.f0 g.f0 = false) →
    pantrylaw03_FieldSets.l2 k x1 x5 m b x1 (x1.length : Int) (i : Int) y (y.length : Int) (j : Int) f.f0 f.f1 = some true := by
  intro d
  induction d with
  | zero =>
    intro j k b hj hk hb
    obtain ⟨k, rfl⟩ : ∃ j, k = j + 1 := ⟨k - 1, by omega⟩
    simp only [pantrylaw03_FieldSets.l2]
    have g : field_List_Get.f k m f.f0 = some (getB f.f0 m, decide (0 < (allV f.f0 m).length)) := get_eval f.f0 m (by omega) hm (by omega) k (by omega)
    rw [if_neg (by omega), g, w64n (by omega) (by omega)]
    simp only [Option.bind_some]
    cases b with
    | false =>
      rw [if_neg (by simp)]
      exact nx k (by omega)
    | true =>
      rw [List.take_of_length_le (by omega)] at hb
      have hv := hlast (hb rfl)
      have hg : (getB f.f0 m).toList = f.f1.toList := by
        rw [getB_list, hv, ByteArray.toList_eq]
        simp [joinB, Lib.join, List.intercalate]
      rw [if_pos rfl, hv, if_pos (by simp), if_pos hg, all_eval f.f0 m (by omega) (fun x hx => by have := (hm x hx).1; omega) (by omega) k (by omega), hv]
      simp only [Option.bind_some]
      rw [if_pos (by simp)]
      exact nx k (by omega)
  | succ d ih =>
    intro j k b hj hk hb
    obtain ⟨k, rfl⟩ : ∃ j, k = j + 1 := ⟨k - 1, by omega⟩
    have hlt : j < y.length := by omega
    have hx := hyx _ (List.getElem_mem hlt)
    have nx2 : ∀ b : Bool, (b = true → ∀ g ∈ y.take (j + 1), sameB f.f0 g.f0 = false) → pantrylaw03_FieldSets.l2 k x1 x5 m b x1 (x1.length : Int) (i : Int) y (y.length : Int) ((j : Int) + 1) f.f0 f.f1 = some true := fun b h => by
      have := ih (j + 1) k b (by omega) (by omega) h
      rwa [show ((j + 1 : Nat) : Int) = (j : Int) + 1 by omega] at this
    simp only [pantrylaw03_FieldSets.l2]
    rw [if_pos (by omega), if_pos (by omega), if_pos (by omega), w64n (by omega) (by omega), rd39 y j hlt]
    cases b with
    | false =>
      rw [if_neg (by simp)]
      exact nx2 false (fun h => by cases h)
    | true =>
      rw [if_pos rfl, rlow_eval f.f0 (by omega) k (by omega), rlow_eval y[j].f0 (by omega) k (by omega)]
      simp only [Option.bind_some]
      rw [lowne]
      refine nx2 _ (fun h g hg => ?_)
      rw [List.take_succ_eq_append_getElem hlt] at hg
      rcases List.mem_append.1 hg with hg | hg
      · exact hb rfl g hg
      · obtain rfl := List.mem_singleton.1 hg
        simpa using h
theorem sets_l1 (l more m : List S39) (hmd : m = withAll l more) (s0 : SmallF l) (s1 : SmallF more) (hml : m.length ≤ 1000) (hm : ∀ x ∈ m, x.f0.size ≤ 200 ∧ x.f1.size ≤ 1100) : ∀ (d i k : Nat), i + d = more.length → d * 4000 + 5000 < k →
    pantrylaw03_FieldSets.l1 k more (m.map conv) m more (more.length : Int) (i : Int) = some true := by
  have z1 := s1.1
  intro d
  induction d with
  | zero =>
    intro i k hi hk
    obtain ⟨k, rfl⟩ : ∃ j, k = j + 1 := ⟨k - 1, by omega⟩
    simp only [pantrylaw03_FieldSets.l1]
    rw [if_neg (by omega), made_eval m (by omega) k (by omega)]
    simp only [Option.bind_some]
    rw [same_eval _ (by rw [List.length_map]; omega) k (by rw [List.length_map]; omega)]
    rfl
  | succ d ih =>
    intro i k hi hk
    obtain ⟨k, rfl⟩ : ∃ j, k = j + 1 := ⟨k - 1, by omega⟩
    have hlt : i < more.length := by omega
    have hx := s1.2 _ (List.getElem_mem hlt)
    simp only [pantrylaw03_FieldSets.l1]
    rw [if_pos (by omega), if_pos (by omega), if_pos (by omega), w64n (by omega) (by omega), if_pos (by omega), if_pos (by omega), show ((i : Int) + 1).toNat = i + 1 by omega, rd39 more i hlt]
    simp only [Option.bind_some]
    have hdl : (more.drop (i + 1)).length ≤ 70 := by rw [List.length_drop]; omega
    obtain ⟨B, hB⟩ : ∃ B, B = d * 4000 + 5000 := ⟨_, rfl⟩
    obtain ⟨y, hy⟩ : ∃ y, y = more.drop (i + 1) := ⟨_, rfl⟩
    rw [← hy] at hdl
    rw [← hy]
    refine sets_l2 more (m.map conv) m y i more[i] hx (by omega) (fun x h => (s1.2 x (List.mem_of_mem_drop (hy ▸ h))).1) hm hml (by omega) (fun h => ?_) B (fun kk hkk => ?_) y.length 0 k true (Nat.zero_add _) (by omega) (fun _ g hg => by simp at hg)
    · rw [hmd]
      exact filt_last l more i hlt (hy ▸ h)
    · have := ih (i + 1) kk (by omega) (hB ▸ hkk)
      rwa [show ((i + 1 : Nat) : Int) = (i : Int) + 1 by omega] at this
theorem sets_l0 (l more : List S39) (s0 : SmallF l) (s1 : SmallF more) : ∀ (d i k : Nat) (acc : List S39), i + d = more.length → d + 300000 < k → acc = withAll l (more.take i) →
    pantrylaw03_FieldSets.l0 k l more (acc.map conv) (more.map conv) (more.length : Int) (i : Int) = some true := by
  have z0 := s0.1
  have z1 := s1.1
  intro d
  induction d with
  | zero =>
    intro i k acc hi hk ha
    obtain ⟨k, rfl⟩ : ∃ j, k = j + 1 := ⟨k - 1, by omega⟩
    rw [List.take_of_length_le (by omega)] at ha
    subst ha
    simp only [pantrylaw03_FieldSets.l0]
    rw [if_neg (by omega)]
    unfold field_List_With.f
    rw [if_pos (with_ok l more s0 s1)]
    simp only [Option.bind_some]
    have hwl := withAll_len more l
    refine sets_l1 l more _ rfl s0 s1 (by omega) (fun x hx => ?_) more.length 0 k (Nat.zero_add _) (by omega)
    rcases withAll_mem _ _ _ hx with h | h
    · exact s0.2 x h
    · exact s1.2 x h
  | succ d ih =>
    intro i k acc hi hk ha
    obtain ⟨k, rfl⟩ : ∃ j, k = j + 1 := ⟨k - 1, by omega⟩
    have hlt : i < more.length := by omega
    have hx := s1.2 _ (List.getElem_mem hlt)
    have hal := withAll_len (more.take i) l
    rw [← ha, List.length_take] at hal
    have e : pantryref03_With.f k (acc.map conv) (conv more[i]).f0 (conv more[i]).f1 = some ((withOne acc more[i]).map conv) := rwith_eval more[i] (by omega) acc (fun x hx => by
      rw [ha] at hx
      rcases withAll_mem _ _ _ hx with h | h
      · have := (s0.2 x h).1; omega
      · have := (s1.2 x (List.mem_of_mem_take h)).1; omega) (by omega) k (by omega)
    simp only [pantrylaw03_FieldSets.l0]
    rw [if_pos (by omega), if_pos (by omega), if_pos (by rw [List.length_map]; omega), rd36 _ i (by rw [List.length_map]; omega), List.getElem_map, e, w64n (by omega) (by omega)]
    simp only [Option.bind_some]
    have := ih (i + 1) k (withOne acc more[i]) (by omega) (by omega) (by
      rw [List.take_succ_eq_append_getElem hlt, ha]
      unfold withAll
      rw [List.foldl_append]
      rfl)
    rwa [show ((i + 1 : Nat) : Int) = (i : Int) + 1 by omega] at this
theorem law_FieldSets (l0 l1 : List S39) (h0 : l0.length ≤ 9223372036854775807) (h1 : l1.length ≤ 9223372036854775807) : ∃ k, pantrylaw03_FieldSets.f k l0 l1 = some true := by
  obtain ⟨K, hK⟩ : ∃ K, l0.length + l1.length + 2000000 ≤ K := ⟨_, Nat.le_refl _⟩
  refine ⟨K, ?_⟩
  unfold pantrylaw03_FieldSets.f
  obtain ⟨k, hk⟩ : ∃ j, K = j + 1 := ⟨K - 1, by omega⟩
  have jt : pantrylaw03_FieldSets.j0 K l0 l1 true = some true := by rw [hk]; simp [pantrylaw03_FieldSets.j0]
  rw [anchor_ok _ (by omega)]
  simp only [Option.bind_some]
  rw [if_pos trivial]
  obtain ⟨b, hb, hs⟩ := small_eval l0 h0 K (by omega)
  obtain ⟨b', hb', hs'⟩ := small_eval l1 h1 K (by omega)
  rw [hb]
  simp only [Option.bind_some]
  cases b with
  | false => rw [if_neg (by simp)]; exact jt
  | true =>
    rw [if_pos rfl, hb']
    simp only [Option.bind_some]
    cases b' with
    | false => rw [if_neg (by simp)]; exact jt
    | true =>
      rw [if_pos rfl]
      have s0 := hs rfl
      have s1 := hs' rfl
      by_cases n1 : (l1.length : Int) > 20
      · rw [decide_eq_true n1]; exact jt
      · rw [decide_eq_false n1, hk]
        have z0 := s0.1
        simp only [pantrylaw03_FieldSets.j0]
        rw [if_neg (by simp), made_eval l0 (by omega) k (by omega)]
        simp only [Option.bind_some]
        rw [made_eval l1 (by omega) k (by omega)]
        simp only [Option.bind_some]
        rw [List.length_map]
        exact sets_l0 l0 l1 s0 s1 l1.length 0 k l0 (Nat.zero_add _) (by omega) rfl

/-! ## FieldOwn -/
theorem own_l1 (x0 : List S39) (h0 : x0.length ≤ 1000) : ∀ (d i k : Nat) (x9 : List S39), x9.length ≤ 100000 → i + d = x9.length → d + 2000 < k → pantrylaw03_FieldOwn.l1 k x0 (x0.map conv) x9 (x9.length : Int) (i : Int) = some true := by
  intro d
  induction d with
  | zero =>
    intro i k x9 hb hi hk
    obtain ⟨k, rfl⟩ : ∃ j, k = j + 1 := ⟨k - 1, by omega⟩
    simp only [pantrylaw03_FieldOwn.l1]
    rw [if_neg (by omega), made_eval x0 (by omega) k (by omega)]
    simp only [Option.bind_some]
    rw [same_eval _ (by rw [List.length_map]; omega) k (by rw [List.length_map]; omega)]
    rfl
  | succ d ih =>
    intro i k x9 hb hi hk
    obtain ⟨k, rfl⟩ : ∃ j, k = j + 1 := ⟨k - 1, by omega⟩
    simp only [pantrylaw03_FieldOwn.l1]
    rw [if_pos (by omega), if_pos (by omega), if_pos (by omega), w64n (by omega) (by omega), Int.toNat_natCast]
    generalize hv : (S39.mk (rd_T39 x9 (i : Int)).f0 (⟨#[116, 117, 114, 110, 101, 100]⟩ : ByteArray)) = v
    have := ih (i + 1) k (x9.set i v) (by rw [List.length_set]; omega) (by rw [List.length_set]; omega) (by omega)
    rw [List.length_set, show ((i + 1 : Nat) : Int) = (i : Int) + 1 by omega] at this
    exact this
theorem own_l0 (x0 x9 : List S39) (h0 : x0.length ≤ 1000) (h9 : x9.length ≤ 1000) : ∀ (d i k : Nat) (x8 : List S39), x8.length ≤ 100000 → i + d = x8.length → d + 5000 < k → pantrylaw03_FieldOwn.l0 k x0 (x0.map conv) x8 x9 (x8.length : Int) (i : Int) = some true := by
  intro d
  induction d with
  | zero =>
    intro i k x8 hb hi hk
    obtain ⟨k, rfl⟩ : ∃ j, k = j + 1 := ⟨k - 1, by omega⟩
    simp only [pantrylaw03_FieldOwn.l0]
    rw [if_neg (by omega)]
    exact own_l1 x0 h0 x9.length 0 k x9 (by omega) (by omega) (by omega)
  | succ d ih =>
    intro i k x8 hb hi hk
    obtain ⟨k, rfl⟩ : ∃ j, k = j + 1 := ⟨k - 1, by omega⟩
    simp only [pantrylaw03_FieldOwn.l0]
    rw [if_pos (by omega), if_pos (by omega), if_pos (by omega), w64n (by omega) (by omega), Int.toNat_natCast]
    generalize hv : (S39.mk (⟨#[116, 117, 114, 110, 101, 100]⟩ : ByteArray) (rd_T39 x8 (i : Int)).f1) = v
    have := ih (i + 1) k (x8.set i v) (by rw [List.length_set]; omega) (by rw [List.length_set]; omega) (by omega)
    rw [List.length_set, show ((i + 1 : Nat) : Int) = (i : Int) + 1 by omega] at this
    exact this
theorem law_FieldOwn (l0 l1 : List S39) (l2 : List ByteArray) (h0 : l0.length ≤ 9223372036854775807) (h1 : l1.length ≤ 9223372036854775807) (h2 : ∀ x ∈ l2, x.size ≤ 140737488351232) : ∃ k, pantrylaw03_FieldOwn.f k l0 l1 l2 = some true := by
  obtain ⟨K, hK⟩ : ∃ K, l0.length + l1.length + 20000 ≤ K := ⟨_, Nat.le_refl _⟩
  refine ⟨K, ?_⟩
  unfold pantrylaw03_FieldOwn.f
  obtain ⟨k, hk⟩ : ∃ j, K = j + 1 := ⟨K - 1, by omega⟩
  have jt : pantrylaw03_FieldOwn.j0 K l0 l1 l2 true = some true := by rw [hk]; simp [pantrylaw03_FieldOwn.j0]
  rw [anchor_ok _ (by omega)]
  simp only [Option.bind_some]
  rw [if_pos trivial]
  obtain ⟨b, hb, hs⟩ := small_eval l0 h0 K (by omega)
  obtain ⟨b', hb', hs'⟩ := small_eval l1 h1 K (by omega)
  rw [hb]
  simp only [Option.bind_some]
  cases b with
  | false => rw [if_neg (by simp)]; exact jt
  | true =>
    rw [if_pos rfl, hb']
    simp only [Option.bind_some]
    cases b' with
    | false => rw [if_neg (by simp)]; exact jt
    | true =>
      rw [if_pos rfl]
      have s0 := hs rfl
      have s1 := hs' rfl
      by_cases n1 : (l1.length : Int) > 20
      · rw [if_pos n1]; exact jt
      · rw [if_neg n1]
        by_cases n2 : (l2.length : Int) > 20
        · rw [decide_eq_true n2]; exact jt
        · rw [decide_eq_false n2, hk]
          have z0 := s0.1
          simp only [pantrylaw03_FieldOwn.j0]
          rw [if_neg (by simp), made_eval l0 (by omega) k (by omega)]
          simp only [Option.bind_some]
          have hwo : withOk l0 l1 := with_ok l0 l1 s0 s1
          unfold field_List_With.f
          rw [if_pos hwo]
          simp only [Option.bind_some]
          rw [wout_f l2 l0 (by omega) h2 (fun x h => by have := (s0.2 x h).1; omega) (by omega) k (by omega)]
          simp only [Option.bind_some]
          have hwl := withAll_len l1 l0
          have hol : (wout l2 l0).length ≤ l0.length := List.length_filter_le _ _
          have z1 := s1.1
          exact own_l0 l0 (wout l2 l0) (by omega) (by omega) _ 0 k (withAll l0 l1) (by omega) (Nat.zero_add _) (by omega)

end Go.Proofs.YtmncflihmigdmaaDoor.PAll
