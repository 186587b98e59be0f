import Derived.Test.YtmncflihmigdmaaDoorPAllx0
import Derived.Test.YtmncflihmigdmaaDoorPAllx1
import Derived.Test.YtmncflihmigdmaaDoorPAllx2
import Derived.Test.YtmncflihmigdmaaDoorPAllx3
import Derived.Test.YtmncflihmigdmaaDoorPAllx4
import Derived.Test.YtmncflihmigdmaaDoorPAllx5
import Derived.Lib.Join
namespace Go.Proofs.YtmncflihmigdmaaDoor.PAll
open Go.RowKit Go.Proofs.YtmncflihmigdmaaDoorW.PrintWords Go.Proofs.YtmncflihmigdmaaDoorW.PrintLast Go.Proofs.YtmncflihmigdmaaDoorW.PrintMore
set_option linter.unusedVariables false
set_option linter.unusedSimpArgs false

/-! ## Fields, as lists -/
theorem anchor60 : pantrylaw03_anchor.f 60 = some true := by decide +kernel
theorem anchor_ok (k : Nat) (hk : 60 ≤ k) : pantrylaw03_anchor.f k = some true := by
  obtain ⟨j, rfl⟩ : ∃ j, k = 60 + j := ⟨k - 60, by omega⟩
  clear hk
  induction j with
  | zero => exact anchor60
  | succ j ih => exact pantrylaw03_anchor.mono _ _ ih
theorem rd39 (l : List S39) (i : Nat) (h : i < l.length) : rd_T39 l (i : Int) = l[i] := by simp [rd_T39, h]
theorem rdB (l : List ByteArray) (i : Nat) (h : i < l.length) : rdOf ByteArray.empty l (i : Int) = l[i] := by simp [rdOf, h]
def SmallF (l : List S39) : Prop := l.length ≤ 70 ∧ ∀ f ∈ l, f.f0.size ≤ 200 ∧ f.f1.size ≤ 1100
theorem small_l0 (l : List S39) (hl : l.length ≤ 9223372036854775807) : ∀ (d i k : Nat), i + d = l.length → d < k →
    ∃ b, pantrylaw03_small.l0 k l l (l.length : Int) (i : Int) = some b ∧ (b = true → l.length ≤ 70 ∧ ∀ f ∈ l.drop i, f.f0.size ≤ 200 ∧ f.f1.size ≤ 1100) := by
  intro d
  induction d with
  | zero =>
    intro i k hi hk
    obtain ⟨k, rfl⟩ : ∃ j, k = j + 1 := ⟨k - 1, by omega⟩
    simp only [pantrylaw03_small.l0]
    rw [if_neg (by omega)]
    refine ⟨_, rfl, fun h => ?_⟩
    have := of_decide_eq_true h
    rw [List.drop_of_length_le (by omega)]
    exact ⟨by omega, fun f hf => by cases hf⟩
  | succ d ih =>
    intro i k hi hk
    obtain ⟨k, rfl⟩ : ∃ j, k = j + 1 := ⟨k - 1, by omega⟩
    have hlt : i < l.length := by omega
    simp only [pantrylaw03_small.l0]
    rw [if_pos (by omega), if_pos (by omega), if_pos (by omega), rd39 l i hlt]
    by_cases h1 : ((l[i].f0).size : Int) > 200
    · rw [if_pos h1]; exact ⟨false, rfl, fun h => by cases h⟩
    · rw [if_neg h1]
      by_cases h2 : ((l[i].f1).size : Int) > 1100
      · rw [if_pos h2]; exact ⟨false, rfl, fun h => by cases h⟩
      · rw [if_neg h2, w64n (by omega) (by omega)]
        obtain ⟨b, hb, hs⟩ := ih (i + 1) k (by omega) (by omega)
        refine ⟨b, hb, fun h => ?_⟩
        obtain ⟨h3, h4⟩ := hs h
        refine ⟨h3, fun f hf => ?_⟩
        rw [List.drop_eq_getElem_cons hlt] at hf
        rcases List.mem_cons.1 hf with rfl | hf
        · exact ⟨by omega, by omega⟩
        · exact h4 f hf
theorem small_eval (l : List S39) (hl : l.length ≤ 9223372036854775807) (k : Nat) (hk : l.length < k) : ∃ b, pantrylaw03_small.f k l = some b ∧ (b = true → SmallF l) := by
  obtain ⟨b, hb, hs⟩ := small_l0 l hl l.length 0 k (by omega) hk
  exact ⟨b, hb, fun h => by simpa [SmallF] using hs h⟩

/-! The reference's small letters -/
def lowI (x : Int) : Int := if x ≥ 65 ∧ x ≤ 90 then (x + 32) % 256 else x
theorem bt_at2 (s : ByteArray) (i : Nat) (h : i < s.data.toList.length) : bt s (i : Int) = ((s.data.toList[i]).toNat : Int) := by
  have h' : i < s.size := by simpa using h
  unfold bt
  simp only [Int.toNat_natCast]
  rw [dif_pos h']
  rfl
theorem lowI_u8 (c : UInt8) : UInt8.ofNat (lowI (c.toNat : Int)).toNat = lowU c := by
  have := c.toNat_lt
  unfold lowI lowU
  by_cases h : 65 ≤ c.toNat ∧ c.toNat ≤ 90
  · rw [if_pos (by omega), if_pos h]
    congr 1
    omega
  · rw [if_neg (by omega), if_neg h]
    simp
theorem rlow_l0 (s : ByteArray) (hs : s.size ≤ 140737488351232) : ∀ (d i : Nat) (acc : List Int) (k : Nat), i + d = s.size → acc.length ≤ i → d < k →
    pantryref01_Lower.l0 k s acc (i : Int) = some (strOfNums (acc ++ (s.data.toList.drop i).map fun c => lowI (c.toNat : Int))) := by
  intro d
  induction d with
  | zero =>
    intro i acc k hi ha hk
    obtain ⟨k, rfl⟩ : ∃ j, k = j + 1 := ⟨k - 1, by omega⟩
    have hz : s.data.toList.length = s.size := by simp
    simp only [pantryref01_Lower.l0]
    rw [if_neg (by omega), List.drop_of_length_le (by omega)]
    simp
  | succ d ih =>
    intro i acc k hi ha hk
    obtain ⟨k, rfl⟩ : ∃ j, k = j + 1 := ⟨k - 1, by omega⟩
    have hz : s.data.toList.length = s.size := by simp
    have hlt : i < s.data.toList.length := by omega
    simp only [pantryref01_Lower.l0]
    rw [if_pos (by omega), if_pos (by omega), bt_at2 s i hlt, w64n (by omega) (by omega)]
    have hc := (s.data.toList[i]).toNat_lt
    rw [List.drop_eq_getElem_cons hlt, List.map_cons]
    have step : ∀ x : Int, lowI ((s.data.toList[i]).toNat : Int) = x → pantryref01_Lower.l0 k s (acc ++ [x]) ((i : Int) + 1) = some (strOfNums (acc ++ lowI ((s.data.toList[i]).toNat : Int) :: (s.data.toList.drop (i + 1)).map fun c => lowI (c.toNat : Int))) := by
      rintro x rfl
      have := ih (i + 1) (acc ++ [lowI ((s.data.toList[i]).toNat : Int)]) k (by omega) (by simp; omega) (by omega)
      rw [show ((i + 1 : Nat) : Int) = (i : Int) + 1 by omega] at this
      rw [this, List.append_assoc]
      rfl
    by_cases h1 : ((s.data.toList[i]).toNat : Int) ≥ 65
    · rw [if_pos h1]
      by_cases h2 : ((s.data.toList[i]).toNat : Int) ≤ 90
      · rw [if_pos h2, if_pos (by omega)]
        exact step _ (by unfold lowI; rw [if_pos ⟨h1, h2⟩])
      · rw [if_neg h2, if_pos (by omega)]
        exact step _ (by unfold lowI; rw [if_neg (by omega)])
    · rw [if_neg h1, if_pos (by omega)]
      exact step _ (by unfold lowI; rw [if_neg (by omega)])
theorem rlow_eval (s : ByteArray) (hs : s.size ≤ 140737488351232) (k : Nat) (hk : s.size < k) : pantryref01_Lower.f k s = some (lowB s) := by
  unfold pantryref01_Lower.f
  have := rlow_l0 s hs s.size 0 [] k (by omega) (by simp) hk
  rw [show ((0 : Nat) : Int) = 0 from rfl] at this
  rw [this]
  congr 1
  unfold strOfNums lowB lowL
  simp only [List.nil_append, List.drop_zero, List.map_map]
  congr 2
  apply List.map_congr_left
  intro c _
  exact lowI_u8 c

/-! ## All, Get, Same -/
def allV (n : ByteArray) (l : List S39) : List ByteArray := (l.filter (isOf [n])).map (·.f1)
theorem all_l0 (n : ByteArray) (l : List S39) (hn : n.size ≤ 140737488351232) (hl : ∀ x ∈ l, x.f0.size ≤ 140737488351232) (hlen : l.length < 4398046511104) :
    ∀ (d i : Nat) (acc : List ByteArray) (k : Nat), i + d = l.length → acc.length ≤ i → d < k →
    field_List_All.l0 k n acc l (l.length : Int) (i : Int) = some (acc ++ allV n (l.drop i)) := by
  intro d
  induction d with
  | zero =>
    intro i acc k hi ha hk
    obtain ⟨k, rfl⟩ : ∃ j, k = j + 1 := ⟨k - 1, by omega⟩
    simp only [field_List_All.l0]
    rw [if_neg (by omega), List.drop_of_length_le (by omega)]
    simp [allV]
  | succ d ih =>
    intro i acc k hi ha hk
    obtain ⟨k, rfl⟩ : ∃ j, k = j + 1 := ⟨k - 1, by omega⟩
    have hlt : i < l.length := by omega
    simp only [field_List_All.l0]
    rw [if_pos (by omega), if_pos (by omega), if_pos (by omega), rd39 l i hlt]
    unfold field_Field_named.f
    rw [if_pos ⟨hl _ (List.getElem_mem hlt), by simp, by simpa using hn⟩]
    simp only [Option.bind_some]
    rw [List.drop_eq_getElem_cons hlt, w64n (by omega) (by omega)]
    by_cases hs : isOf [n] l[i] = true
    · have hs' : ([n].any fun n => sameB n l[i].f0) = true := hs
      rw [if_pos hs', if_pos (by omega)]
      have := ih (i + 1) (acc ++ [l[i].f1]) k (by omega) (by simp; omega) (by omega)
      rw [show ((i + 1 : Nat) : Int) = (i : Int) + 1 by omega] at this
      rw [this]
      unfold allV
      rw [List.filter_cons_of_pos hs, List.append_assoc]
      rfl
    · have hs' : ¬ ([n].any fun n => sameB n l[i].f0) = true := hs
      rw [if_neg hs']
      have := ih (i + 1) acc k (by omega) (by omega) (by omega)
      rw [show ((i + 1 : Nat) : Int) = (i : Int) + 1 by omega] at this
      rw [this]
      unfold allV
      rw [List.filter_cons_of_neg hs]
theorem all_eval (n : ByteArray) (l : List S39) (hn : n.size ≤ 140737488351232) (hl : ∀ x ∈ l, x.f0.size ≤ 140737488351232) (hlen : l.length < 4398046511104) (k : Nat) (hk : l.length < k) : field_List_All.f k l n = some (allV n l) := by
  unfold field_List_All.f
  have := all_l0 n l hn hl hlen l.length 0 [] k (by omega) (by simp) hk
  simpa using this
theorem inter_len (sep : List UInt8) (M : Nat) : ∀ (xs : List (List UInt8)), (∀ x ∈ xs, x.length ≤ M) → (sep.intercalate xs).length ≤ xs.length * (M + sep.length) := by
  intro xs
  induction xs with
  | nil => intro _; simp [List.intercalate]
  | cons x xs ih =>
    intro h
    have h1 := h x (by simp)
    have h2 := ih (fun y hy => h y (by simp [hy]))
    cases xs with
    | nil => simp [List.intercalate]; omega
    | cons y ys =>
      have e : sep.intercalate (x :: y :: ys) = x ++ (sep ++ sep.intercalate (y :: ys)) := by simp [List.intercalate]
      rw [e]
      simp only [List.length_append, List.length_cons, Nat.add_mul, Nat.one_mul] at *
      omega
theorem get_eval (n : ByteArray) (l : List S39) (hn : n.size ≤ 140737488351232) (hs : ∀ x ∈ l, x.f0.size ≤ 200 ∧ x.f1.size ≤ 1100) (hlen : l.length ≤ 1000000) (k : Nat) (hk : l.length < k) :
    field_List_Get.f k l n = some (⟨(joinB (allV n l) ⟨#[44, 32]⟩).toArray⟩, decide (0 < (allV n l).length)) := by
  unfold field_List_Get.f
  rw [all_eval n l hn (fun x hx => by have := (hs x hx).1; omega) (by omega) k hk]
  simp only [Option.bind_some]
  have hle : (allV n l).length ≤ l.length := by
    unfold allV
    rw [List.length_map]
    exact List.length_filter_le _ _
  have hok : joinOk (allV n l) ⟨#[44, 32]⟩ := by
    refine ⟨by omega, ?_⟩
    unfold joinB Lib.join
    have := inter_len (⟨#[44, 32]⟩ : ByteArray).data.toList 1100 ((allV n l).map (·.data.toList)) (fun x hx => by
      obtain ⟨y, hy, rfl⟩ := List.mem_map.1 hx
      unfold allV at hy
      obtain ⟨f, hf, rfl⟩ := List.mem_map.1 hy
      have := (hs f (List.mem_filter.1 hf).1).2
      simpa using this)
    rw [List.length_map] at this
    have h2 : ((⟨#[44, 32]⟩ : ByteArray).data.toList).length = 2 := rfl
    rw [h2] at this
    have : (allV n l).length * (1100 + 2) ≤ 1000000 * 1102 := Nat.mul_le_mul_right _ (by omega)
    omega
  unfold strings_Join.f
  rw [if_pos hok]
  simp only [Option.bind_some]
  congr 2
  rw [decide_eq_decide]
  omega

/-! ## FieldParts -/
theorem inter_app (sep : List UInt8) : ∀ (A B : List (List UInt8)), A ≠ [] → B ≠ [] → sep.intercalate (A ++ B) = sep.intercalate A ++ (sep ++ sep.intercalate B) := by
  intro A
  induction A with
  | nil => intro B h; exact absurd rfl h
  | cons x A ih =>
    intro B _ hB
    cases A with
    | nil =>
      cases B with
      | nil => exact absurd rfl hB
      | cons y ys => simp [List.intercalate]
    | cons z A =>
      have := ih B (by simp) hB
      have e1 : sep.intercalate (x :: z :: A) = x ++ (sep ++ sep.intercalate (z :: A)) := by simp [List.intercalate]
      have e2 : sep.intercalate (x :: z :: A ++ B) = x ++ (sep ++ sep.intercalate (z :: A ++ B)) := by simp [List.intercalate]
      rw [e1, e2, this]
      simp
def commaB : ByteArray := ⟨#[44, 32]⟩
def getB (n : ByteArray) (l : List S39) : ByteArray := ⟨(joinB (allV n l) commaB).toArray⟩
theorem getB_list (n : ByteArray) (l : List S39) : (getB n l).toList = joinB (allV n l) commaB := by
  rw [ByteArray.toList_eq]
  simp [getB]
theorem allV_app (n : ByteArray) (a b : List S39) : allV n (a ++ b) = allV n a ++ allV n b := by
  unfold allV
  rw [List.filter_append, List.map_append]
theorem joinB_app (A B : List ByteArray) (hA : A ≠ []) (hB : B ≠ []) : joinB (A ++ B) commaB = joinB A commaB ++ ([44, 32] ++ joinB B commaB) := by
  unfold joinB Lib.join
  rw [List.map_append]
  exact inter_app _ _ _ (by simpa using hA) (by simpa using hB)
theorem getB_size (n : ByteArray) (l : List S39) (h : SmallF l) : (getB n l).size ≤ 80000 := by
  have hle : (allV n l).length ≤ l.length := by
    unfold allV
    rw [List.length_map]
    exact List.length_filter_le _ _
  have := inter_len commaB.data.toList 1100 ((allV n l).map (·.data.toList)) (fun x hx => by
    obtain ⟨y, hy, rfl⟩ := List.mem_map.1 hx
    unfold allV at hy
    obtain ⟨f, hf, rfl⟩ := List.mem_map.1 hy
    have := (h.2 f (List.mem_filter.1 hf).1).2
    simpa using this)
  rw [List.length_map] at this
  have h2 : (commaB.data.toList).length = 2 := rfl
  rw [h2] at this
  have h3 : (allV n l).length * (1100 + 2) ≤ 70 * 1102 := Nat.mul_le_mul_right _ (by have := h.1; omega)
  have h4 : (getB n l).size = (joinB (allV n l) commaB).length := by
    show (joinB (allV n l) commaB).toArray.size = _
    simp
  rw [h4]
  show (List.intercalate _ _).length ≤ _
  omega

/-! ## Lists of elements -/
def endL : Bool → List UInt8 → Nat
  | _, [] => 0
  | q, [c] => if c = 34 then 1 else if q = true ∧ c = 92 then 1 else if q = false ∧ c = 44 then 0 else 1
  | q, c :: d :: l => if c = 34 then 1 + endL (!q) (d :: l) else if q = true ∧ c = 92 then 2 + endL q l else if q = false ∧ c = 44 then 0 else 1 + endL q (d :: l)
theorem endL_le : ∀ (n : Nat) (l : List UInt8) (q : Bool), l.length ≤ n → endL q l ≤ l.length := by
  intro n
  induction n with
  | zero =>
    intro l q h
    obtain rfl := List.eq_nil_of_length_eq_zero (by omega : l.length = 0)
    simp [endL]
  | succ n ih =>
    intro l q h
    match l, h with
    | [], _ => simp [endL]
    | [c], _ =>
      unfold endL
      simp only [List.length_cons, List.length_nil]
      split
      · omega
      · split
        · omega
        · split <;> omega
    | c :: d :: l, h =>
      simp only [List.length_cons] at h
      have h1 := ih (d :: l) (!q) (by simp; omega)
      have h2 := ih l q (by omega)
      have h3 := ih (d :: l) q (by simp; omega)
      unfold endL
      simp only [List.length_cons] at *
      split
      · omega
      · split
        · omega
        · split <;> omega
theorem u8_eq (c d : UInt8) : ((c.toNat : Int) = (d.toNat : Int)) ↔ c = d := by
  constructor
  · intro h
    exact UInt8.toNat_inj.1 (by omega)
  · rintro rfl; rfl
theorem end_past (s : ByteArray) (q : Bool) (i : Nat) (h : s.size ≤ i) (k : Nat) (hk : 0 < k) : sign_end.l0 k s q (i : Int) = some (s.size : Int) := by
  obtain ⟨k, rfl⟩ : ∃ j, k = j + 1 := ⟨k - 1, by omega⟩
  simp only [sign_end.l0]
  rw [if_neg (by omega)]
theorem end_l0 (s : ByteArray) (hs : s.size ≤ 1000000000) : ∀ (d i k : Nat) (q : Bool), i + d = s.size → 2 * d + 1 < k → sign_end.l0 k s q (i : Int) = some ((i + endL q (s.data.toList.drop i) : Nat) : Int) := by
  intro d
  induction d using Nat.strongRecOn with
  | _ d ih =>
    intro i k q hi hk
    have hz : s.data.toList.length = s.size := by simp
    cases d with
    | zero =>
      rw [end_past s q i (by omega) k (by omega), List.drop_of_length_le (by omega)]
      simp only [endL]
      congr 2
      omega
    | succ d =>
      obtain ⟨k, rfl⟩ : ∃ j, k = j + 1 := ⟨k - 1, by omega⟩
      have hlt : i < s.data.toList.length := by omega
      have n1 : ∀ (kk : Nat), 2 * d + 1 < kk → ∀ (q : Bool), sign_end.l0 kk s q ((i : Int) + 1) = some ((i + 1 + endL q (s.data.toList.drop (i + 1)) : Nat) : Int) := fun kk hkk q => by
        have := ih d (by omega) (i + 1) kk q (by omega) hkk
        rwa [show ((i + 1 : Nat) : Int) = (i : Int) + 1 by omega] at this
      have n2 : d = 0 ∨ 0 < d ∧ ∀ (kk : Nat), 2 * d < kk → ∀ (q : Bool), sign_end.l0 kk s q ((i : Int) + 1 + 1) = some ((i + 2 + endL q (s.data.toList.drop (i + 2)) : Nat) : Int) := by
        rcases Nat.eq_zero_or_pos d with h | h
        · exact .inl h
        · refine .inr ⟨h, fun kk hkk q => ?_⟩
          have := ih (d - 1) (by omega) (i + 2) kk q (by omega) (by omega)
          rwa [show ((i + 2 : Nat) : Int) = (i : Int) + 1 + 1 by omega] at this
      simp only [sign_end.l0]
      have hbt := bt_at2 s i hlt
      rw [if_pos (by omega), if_pos (by omega), hbt, w64n (by omega) (by omega)]
      rw [List.drop_eq_getElem_cons hlt]
      have e34 : ((s.data.toList[i]).toNat : Int) = 34 ↔ s.data.toList[i] = 34 := u8_eq _ 34
      have e92 : ((s.data.toList[i]).toNat : Int) = 92 ↔ s.data.toList[i] = 92 := u8_eq _ 92
      have e44 : ((s.data.toList[i]).toNat : Int) = 44 ↔ s.data.toList[i] = 44 := u8_eq _ 44
      generalize s.data.toList[i] = c at *
      have hstep : ∀ (q q' : Bool), endL q (c :: s.data.toList.drop (i + 1)) = 1 + endL q' (s.data.toList.drop (i + 1)) → some ((i + 1 + endL q' (s.data.toList.drop (i + 1)) : Nat) : Int) = some ((i + endL q (c :: s.data.toList.drop (i + 1)) : Nat) : Int) := by
        intro q q' h
        rw [h]
        congr 2
        omega
      by_cases h1 : c = 34
      · rw [if_pos (e34.2 h1), n1 _ (by omega)]
        refine hstep _ _ ?_
        subst h1
        cases s.data.toList.drop (i + 1) <;> simp [endL]
      · rw [if_neg (fun h => h1 (e34.1 h))]
        cases q with
        | true =>
          rw [if_pos rfl]
          obtain ⟨k, rfl⟩ : ∃ j, k = j + 1 := ⟨k - 1, by omega⟩
          simp only [sign_end.j1]
          by_cases h2 : c = 92
          · have hb : (((c.toNat : Int)) == 92) = true := beq_iff_eq.2 (e92.2 h2)
            rw [hb, if_pos rfl, w64n (x := (i : Int) + 1) (by omega) (by omega), w64n (by omega) (by omega)]
            rcases n2 with rfl | ⟨hd0, n2⟩
            · have := end_past s true (i + 2) (by omega) k (by omega)
              rw [show ((i + 2 : Nat) : Int) = (i : Int) + 1 + 1 by omega] at this
              rw [this, List.drop_of_length_le (by omega)]
              subst h2
              have e1 : endL true [(92 : UInt8)] = 1 := by decide
              rw [e1]
              exact congrArg some (by omega)
            · rw [n2 _ (by omega)]
              subst h2
              cases hd : s.data.toList.drop (i + 1) with
              | nil =>
                have := congrArg List.length hd
                rw [List.length_drop] at this
                simp only [List.length_nil] at this
                omega
              | cons x l =>
                have e2 : s.data.toList.drop (i + 2) = l := by
                  have := congrArg (List.drop 1) hd
                  rw [List.drop_drop] at this
                  simpa using this
                rw [e2]
                have e1 : endL true ((92 : UInt8) :: x :: l) = 2 + endL true l := by simp [endL]
                rw [e1]
                exact congrArg some (by omega)
          · have hb : (((c.toNat : Int)) == 92) = false := beq_eq_false_iff_ne.2 (fun h => h2 (e92.1 h))
            rw [hb, if_neg (by simp), if_pos trivial, w64n (by omega) (by omega), n1 _ (by omega)]
            refine hstep _ _ ?_
            cases s.data.toList.drop (i + 1) <;> simp [endL, h1, h2]
        | false =>
          rw [if_neg (by simp)]
          obtain ⟨k, rfl⟩ : ∃ j, k = j + 1 := ⟨k - 1, by omega⟩
          simp only [sign_end.j1]
          rw [if_neg (by simp), if_neg (by simp), if_pos (by omega), if_pos (by omega), hbt]
          by_cases h3 : c = 44
          · rw [if_pos (e44.2 h3)]
            subst h3
            cases s.data.toList.drop (i + 1) <;> simp [endL]
          · rw [if_neg (fun h => h3 (e44.1 h)), w64n (by omega) (by omega), n1 _ (by omega)]
            refine hstep _ _ ?_
            cases s.data.toList.drop (i + 1) <;> simp [endL, h1, h3]

def toB (l : List UInt8) : ByteArray := ⟨l.toArray⟩
theorem toB_list (l : List UInt8) : (toB l).data.toList = l := by simp [toB]
theorem of_list (s : ByteArray) : toB s.data.toList = s := by cases s; simp [toB]
theorem size_l (s : ByteArray) : s.size = s.data.toList.length := by simp
theorem ext_l (s : ByteArray) (a b : Nat) : (s.extract a b).data.toList = (s.data.toList.drop a).take (b - a) := by
  rw [ByteArray.data_extract, Array.toList_extract]
def trimL (l : List UInt8) : List UInt8 := Lib.trimS l [32, 9]
theorem dropWhile_len {α : Type} (p : α → Bool) (l : List α) : (l.dropWhile p).length ≤ l.length := (List.dropWhile_sublist p).length_le
theorem trimL_len (l : List UInt8) : (trimL l).length ≤ l.length := by
  unfold trimL Lib.trimS Lib.trimLeftS Lib.trimRightS
  refine Nat.le_trans (dropWhile_len _ _) ?_
  rw [List.length_reverse]
  refine Nat.le_trans (dropWhile_len _ _) ?_
  rw [List.length_reverse]
  exact Nat.le_refl _
theorem trim_eval (s : ByteArray) (hs : s.size ≤ 9223372036854775807) : sign_Trim.f s = some (toB (trimL s.data.toList)) := by
  unfold sign_Trim.f strings_Trim.f
  rw [if_pos ⟨hs, by decide, by decide⟩]
  rfl
def listL : Nat → List UInt8 → List (List UInt8)
  | 0, _ => []
  | k + 1, l => if l = [] then [] else (if trimL (l.take (endL false l)) = [] then [] else [trimL (l.take (endL false l))]) ++ listL k (l.drop (endL false l + 1))
theorem list_l0 : ∀ (n : Nat) (s : ByteArray) (acc : List ByteArray) (k : Nat), s.size ≤ n → n ≤ 1000000000 → acc.length + s.size ≤ 1000000000 → 3 * n + 10 < k →
    sign_List.l0 k s acc = some (acc ++ (listL (n + 1) s.data.toList).map toB) := by
  intro n
  induction n with
  | zero =>
    intro s acc k h0 h1 h2 hk
    obtain ⟨k, rfl⟩ : ∃ j, k = j + 1 := ⟨k - 1, by omega⟩
    have hnil : s.data.toList = [] := List.eq_nil_of_length_eq_zero (by rw [← size_l]; omega)
    simp only [sign_List.l0]
    rw [ByteArray.toList_eq, hnil, if_pos rfl]
    simp [listL]
  | succ n ih =>
    intro s acc k h0 h1 h2 hk
    obtain ⟨k, rfl⟩ : ∃ j, k = j + 1 := ⟨k - 1, by omega⟩
    simp only [sign_List.l0]
    rw [ByteArray.toList_eq]
    by_cases hnil : s.data.toList = []
    · rw [if_pos hnil, hnil]
      simp [listL]
    · rw [if_neg hnil]
      have hpos : 0 < s.size := by
        rw [size_l]
        exact List.length_pos_iff.2 hnil
      have he : sign_end.f k s = some ((endL false s.data.toList : Nat) : Int) := by
        unfold sign_end.f
        have := end_l0 s (by omega) s.size 0 k false (by omega) (by omega)
        rw [List.drop_zero, Nat.zero_add] at this
        exact this
      have hle := endL_le s.data.toList.length s.data.toList false (Nat.le_refl _)
      rw [← size_l] at hle
      rw [he]
      simp only [Option.bind_some]
      rw [listL, if_neg hnil]
      generalize hE : endL false s.data.toList = E at *
      rw [if_pos (by omega), if_pos (by omega), trim_eval _ (by rw [ByteArray.size_extract]; omega)]
      simp only [Option.bind_some]
      rw [ByteArray.toList_eq, toB_list, ext_l, Int.toNat_natCast, List.drop_zero, Nat.sub_zero]
      have hmn : mn (wrap64 ((E : Int) + 1)) (s.size : Int) = ((min (E + 1) s.size : Nat) : Int) := by
        rw [w64n (by omega) (by omega)]
        unfold mn
        split <;> omega
      rw [hmn, Int.toNat_natCast]
      have hsz : (s.extract (min (E + 1) s.size) s.size).size ≤ n := by rw [ByteArray.size_extract]; omega
      have hdl : (s.extract (min (E + 1) s.size) s.size).data.toList = s.data.toList.drop (E + 1) := by
        rw [ext_l]
        have hz := size_l s
        by_cases hc : E + 1 ≤ s.size
        · rw [Nat.min_eq_left hc]
          exact List.take_of_length_le (by rw [List.length_drop]; omega)
        · rw [List.drop_of_length_le (l := s.data.toList) (i := E + 1) (by omega), List.drop_of_length_le (by omega)]
          exact List.take_nil
      have hsz2 : (s.extract (min (E + 1) s.size) s.size).size ≤ s.size - 1 := by rw [ByteArray.size_extract]; omega
      by_cases ht : trimL (s.data.toList.take E) = []
      · rw [if_pos ht, if_pos ht, if_pos (by omega), if_pos (by omega), List.nil_append]
        rw [ih _ acc k hsz (by omega) (by omega) (by omega), hdl]
      · rw [if_neg ht, if_neg ht, if_pos (by omega), if_pos (by omega), if_pos (by omega)]
        rw [ih _ (acc ++ [toB (trimL (s.data.toList.take E))]) k hsz (by omega) (by simp; omega) (by omega), hdl]
        simp
theorem list_eval (s : ByteArray) (hs : s.size ≤ 1000000) (k : Nat) (hk : 3000100 < k) : sign_List.f k s = some ((listL (s.size + 1) s.data.toList).map toB) := by
  unfold sign_List.f
  have := list_l0 s.size s [] k (Nat.le_refl _) (by omega) (by simp; omega) (by omega)
  simpa using this
theorem listL_len : ∀ (n : Nat) (l : List UInt8), (listL n l).length ≤ n ∧ ∀ x ∈ listL n l, x.length ≤ l.length := by
  intro n
  induction n with
  | zero => intro l; simp [listL]
  | succ n ih =>
    intro l
    rw [listL]
    by_cases h : l = []
    · rw [if_pos h]; simp
    · rw [if_neg h]
      obtain ⟨i1, i2⟩ := ih (l.drop (endL false l + 1))
      have hd : (l.drop (endL false l + 1)).length ≤ l.length := by rw [List.length_drop]; omega
      by_cases ht : trimL (l.take (endL false l)) = []
      · rw [if_pos ht, List.nil_append]
        exact ⟨by omega, fun x hx => Nat.le_trans (i2 x hx) hd⟩
      · rw [if_neg ht]
        refine ⟨by simp; omega, fun x hx => ?_⟩
        rcases List.mem_append.1 hx with hx | hx
        · obtain rfl := List.mem_singleton.1 hx
          refine Nat.le_trans (trimL_len _) ?_
          rw [List.length_take]
          omega
        · exact Nat.le_trans (i2 x hx) hd
def elemsB (n : ByteArray) (l : List S39) : List ByteArray := (listL ((getB n l).size + 1) (getB n l).data.toList).map toB
theorem elems_eval (n : ByteArray) (l : List S39) (hn : n.size ≤ 1000) (h : SmallF l) (k : Nat) (hk : 3000100 < k) : field_List_Elements.f k l n = some (elemsB n l) := by
  unfold field_List_Elements.f
  have g : field_List_Get.f k l n = some (getB n l, decide (0 < (allV n l).length)) := get_eval n l (by omega) h.2 (by have := h.1; omega) k (by have := h.1; omega)
  rw [g]
  simp only [Option.bind_some]
  have := getB_size n l h
  rw [list_eval _ (by omega) k hk]
  rfl
theorem elems_ok (n : ByteArray) (l : List S39) (h : SmallF l) : (elemsB n l).length ≤ 100000 ∧ ∀ x ∈ elemsB n l, x.size ≤ 80000 := by
  have hg := getB_size n l h
  obtain ⟨i1, i2⟩ := listL_len ((getB n l).size + 1) (getB n l).data.toList
  unfold elemsB
  refine ⟨by rw [List.length_map]; omega, fun x hx => ?_⟩
  obtain ⟨y, hy, rfl⟩ := List.mem_map.1 hx
  have := i2 y hy
  rw [← size_l] at this
  rw [size_l, toB_list]
  omega
theorem has_eval (n w : ByteArray) (l : List S39) (hn : n.size ≤ 1000) (hw : w.size ≤ 1000) (h : SmallF l) (k : Nat) (hk : 3000100 < k) : field_List_Has.f k l n w = some ((elemsB n l).any fun e => sameB e w) := by
  unfold field_List_Has.f
  rw [elems_eval n l hn h k hk]
  simp only [Option.bind_some]
  obtain ⟨e1, e2⟩ := elems_ok n l h
  rw [if_pos ⟨by omega, by omega, fun x hx => by have := e2 x hx; omega⟩]
/-! Small letters of small letters -/
theorem lowU_idem (c : UInt8) : lowU (lowU c) = lowU c := by
  unfold lowU
  by_cases h : 65 ≤ c.toNat ∧ c.toNat ≤ 90
  · rw [if_pos h]
    have e : (UInt8.ofNat (c.toNat + 32)).toNat = c.toNat + 32 := by simp; omega
    rw [if_neg (by rw [e]; omega)]
  · rw [if_neg h, if_neg h]
theorem lowL_idem (l : List UInt8) : lowL (lowL l) = lowL l := by
  unfold lowL
  rw [List.map_map]
  exact List.map_congr_left fun c _ => lowU_idem c
theorem lowB_list (s : ByteArray) : (lowB s).data.toList = lowL s.data.toList := by simp [lowB]
theorem lowB_size (s : ByteArray) : (lowB s).size = s.size := by
  rw [size_l, size_l, lowB_list]
  simp [lowL]
theorem sameB_low (a b : ByteArray) : sameB (lowB a) b = sameB a b := by
  unfold sameB
  rw [lowB_list, lowL_idem]
theorem sameB_low2 (a b : ByteArray) : sameB a (lowB b) = sameB a b := by
  unfold sameB
  rw [lowB_list, lowL_idem]
theorem isOf_low (n : ByteArray) : isOf [lowB n] = isOf [n] := by
  funext o
  unfold isOf
  simp only [List.any_cons, List.any_nil, Bool.or_false]
  exact sameB_low n o.f0

theorem law_FieldCases (l0 : List S39) (a1 a2 : ByteArray) (h0 : l0.length ≤ 9223372036854775807) : ∃ k, pantrylaw03_FieldCases.f k l0 a1 a2 = some true := by
  obtain ⟨K, hK⟩ : ∃ K, l0.length + 4000000 ≤ K := ⟨_, Nat.le_refl _⟩
  refine ⟨K, ?_⟩
  unfold pantrylaw03_FieldCases.f
  obtain ⟨k, hk⟩ : ∃ j, K = j + 1 := ⟨K - 1, by omega⟩
  rw [anchor_ok _ (by omega)]
  simp only [Option.bind_some]
  rw [if_pos trivial]
  obtain ⟨b, hb, hs⟩ := small_eval l0 h0 K (by omega)
  have jt : pantrylaw03_FieldCases.j0 K l0 a1 a2 true = some true := by rw [hk]; simp [pantrylaw03_FieldCases.j0]
  rw [hb]
  simp only [Option.bind_some]
  cases b with
  | false => rw [if_neg (by simp)]; exact jt
  | true =>
    rw [if_pos rfl]
    have s0 := hs rfl
    by_cases n1 : (a1.size : Int) > 100
    · rw [if_pos n1]; exact jt
    · rw [if_neg n1]
      by_cases n2 : (a2.size : Int) > 100
      · rw [decide_eq_true n2]; exact jt
      · rw [decide_eq_false n2, hk]
        have z0 := s0.1
        have g : ∀ n : ByteArray, n.size ≤ 1000 → field_List_Get.f k l0 n = some (getB n l0, decide (0 < (allV n l0).length)) := fun n hn => get_eval n l0 (by omega) s0.2 (by omega) k (by omega)
        have wo : ∀ n : ByteArray, n.size ≤ 1000 → field_List_Without.f k l0 [n] = some (wout [n] l0) := fun n hn => wout_f [n] l0 (by simp) (by simpa using (by omega : n.size ≤ 140737488351232)) (fun x h => by have := (s0.2 x h).1; omega) (by omega) k (by omega)
        have l1 := lowB_size a1
        have l2 := lowB_size a2
        have ea : allV (lowB a1) l0 = allV a1 l0 := by unfold allV; rw [isOf_low]
        have eg : getB (lowB a1) l0 = getB a1 l0 := by unfold getB; rw [ea]
        have ee : elemsB (lowB a1) l0 = elemsB a1 l0 := by unfold elemsB; rw [eg]
        have ew : wout [lowB a1] l0 = wout [a1] l0 := by unfold wout; rw [isOf_low]
        simp only [pantrylaw03_FieldCases.j0]
        rw [if_neg (by simp), rlow_eval a1 (by omega) k (by omega)]
        simp only [Option.bind_some]
        rw [g a1 (by omega), g (lowB a1) (by omega)]
        simp only [Option.bind_some]
        rw [eg, ea, if_pos rfl, if_pos (by simp), has_eval a1 a2 l0 (by omega) (by omega) s0 k (by omega), rlow_eval a2 (by omega) k (by omega)]
        simp only [Option.bind_some]
        rw [has_eval (lowB a1) (lowB a2) l0 (by omega) (by omega) s0 k (by omega), ee]
        simp only [Option.bind_some, sameB_low2]
        rw [if_pos (by simp), wo a1 (by omega), wo (lowB a1) (by omega), ew]
        simp only [Option.bind_some]
        rw [if_pos trivial, all_eval (lowB a1) l0 (by omega) (fun x h => by have := (s0.2 x h).1; omega) (by omega) k (by omega), ea]
        simp only [Option.bind_some]
        have hcount : (wout [a1] l0).length + (allV a1 l0).length = l0.length := by
          unfold wout allV
          rw [List.length_map]
          have hgen : ∀ l : List S39, (l.filter fun o => !isOf [a1] o).length + (l.filter (isOf [a1])).length = l.length := by
            intro l
            induction l with
            | nil => rfl
            | cons x l ih =>
              cases hx : isOf [a1] x <;> simp [List.filter_cons, hx] <;> omega
          exact hgen l0
        rw [w64n (by omega) (by omega)]
        congr 1
        rw [beq_iff_eq]
        omega

end Go.Proofs.YtmncflihmigdmaaDoor.PAll
