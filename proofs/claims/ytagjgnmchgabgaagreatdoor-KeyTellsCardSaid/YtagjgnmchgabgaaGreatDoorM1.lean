import Derived.Test.YtagjgnmchgabgaaGreatDoorPAllx0
import Derived.Test.YtagjgnmchgabgaaGreatDoorPAllx1
import Derived.Test.YtagjgnmchgabgaaGreatDoorPAllx2
import Derived.Test.YtagjgnmchgabgaaGreatDoorPAllx3
import Derived.Test.YtagjgnmchgabgaaGreatDoorPAllx4
import Derived.Test.YtagjgnmchgabgaaGreatDoorPAllx5
import Derived.Test.YtagjgnmchgabgaaGreatDoorPAllx6
import Derived.Test.YtagjgnmchgabgaaGreatDoorPAllx7
import Derived.Test.YtagjgnmchgabgaaGreatDoorPAllx8
import Derived.Test.YtagjgnmchgabgaaGreatDoorPAllx9
import Derived.Test.YtagjgnmchgabgaaGreatDoorPAllx10
import Derived.Lib.Join
namespace Go.Proofs.YtagjgnmchgabgaaGreatDoor.PAll
open Go.RowKit Go.Proofs.YtagjgnmchgabgaaGreatDoorW.PrintWords Go.Proofs.YtagjgnmchgabgaaGreatDoorW.PrintLast Go.Proofs.YtagjgnmchgabgaaGreatDoorW.PrintMore
set_option linter.unusedVariables false
set_option linter.unusedSimpArgs false

theorem lowB_list (s : ByteArray) : (lowB s).data.toList = lowL s.data.toList := by simp [lowB]

theorem bt_at2 (s : ByteArray) (i : Nat) (h : i < s.data.toList.length) : bt s (i : Int) = ((s.data.toList[i]).toNat : Int) := by
  have h' : i < s.size := by simpa using h
  unfold bt
  simp only [Int.toNat_natCast]
  rw [dif_pos h']
  rfl

/-! What Without comes to (where With is not printed) -/
def isOf (ns : List ByteArray) (o : S46) : Bool := ns.any fun n => sameB n o.f0
def wout (ns : List ByteArray) (l : List S46) : List S46 := l.filter fun o => !isOf ns o
theorem w64n {x : Int} (h0 : -9223372036854775808 ≤ x) (h1 : x ≤ 9223372036854775807) : wrap64 x = x := by unfold wrap64; omega

/-! ## Fields, as lists -/
theorem rd39 (l : List S46) (i : Nat) (h : i < l.length) : rd_T46 l (i : Int) = l[i] := by simp [rd_T46, h]
theorem rdB (l : List ByteArray) (i : Nat) (h : i < l.length) : rdOf ByteArray.empty l (i : Int) = l[i] := by simp [rdOf, h]
def SmallF (l : List S46) : Prop := l.length ≤ 70 ∧ ∀ f ∈ l, f.f0.size ≤ 200 ∧ f.f1.size ≤ 1100
def SmallP (l : List S46) : Prop := l.length ≤ 30 ∧ ∀ f ∈ l, f.f0.size ≤ 100 ∧ f.f1.size ≤ 300
theorem SmallP.F {l : List S46} (h : SmallP l) : SmallF l := ⟨by have := h.1; omega, fun f hf => by have := h.2 f hf; omega⟩

theorem small_l0 (l : List S46) (hl : l.length ≤ 9223372036854775807) : ∀ (d i k : Nat), i + d = l.length → d < k →
    ∃ b, pantrylaw11_small.l0 k l l (l.length : Int) (i : Int) = some b ∧ (b = true → l.length ≤ 30 ∧ ∀ f ∈ l.drop i, f.f0.size ≤ 100 ∧ f.f1.size ≤ 300) := by
  intro d
  induction d with
  | zero =>
    intro i k hi hk
    obtain ⟨k, rfl⟩ : ∃ j, k = j + 1 := ⟨k - 1, by omega⟩
    simp only [pantrylaw11_small.l0]
    rw [if_neg (by omega)]
    refine ⟨_, rfl, fun h => ?_⟩
    have := of_decide_eq_true h
    rw [List.drop_of_length_le (by omega)]
    exact ⟨by omega, fun f hf => by cases hf⟩
  | succ d ih =>
    intro i k hi hk
    obtain ⟨k, rfl⟩ : ∃ j, k = j + 1 := ⟨k - 1, by omega⟩
    have hlt : i < l.length := by omega
    simp only [pantrylaw11_small.l0]
    rw [if_pos (by omega), if_pos (by omega), if_pos (by omega), rd39 l i hlt]
    by_cases h1 : ((l[i].f0).size : Int) > 100
    · rw [if_pos h1]; exact ⟨false, rfl, fun h => by cases h⟩
    · rw [if_neg h1]
      by_cases h2 : ((l[i].f1).size : Int) > 300
      · rw [if_pos h2]; exact ⟨false, rfl, fun h => by cases h⟩
      · rw [if_neg h2, w64n (by omega) (by omega)]
        obtain ⟨b, hb, hs⟩ := ih (i + 1) k (by omega) (by omega)
        refine ⟨b, hb, fun h => ?_⟩
        obtain ⟨h3, h4⟩ := hs h
        refine ⟨h3, fun f hf => ?_⟩
        rw [List.drop_eq_getElem_cons hlt] at hf
        rcases List.mem_cons.1 hf with rfl | hf
        · exact ⟨by omega, by omega⟩
        · exact h4 f hf
theorem small_eval (l : List S46) (hl : l.length ≤ 9223372036854775807) (k : Nat) (hk : l.length < k) : ∃ b, pantrylaw11_small.f k l = some b ∧ (b = true → SmallP l) := by
  obtain ⟨b, hb, hs⟩ := small_l0 l hl l.length 0 k (by omega) hk
  exact ⟨b, hb, fun h => by simpa [SmallP] using hs h⟩

theorem rd36 (l : List S51) (i : Nat) (h : i < l.length) : rd_T51 l (i : Int) = l[i] := by simp [rd_T51, h]
def conv (f : S46) : S51 := ⟨f.f0, f.f1⟩
theorem conv_inj {f g : S46} (h : conv f = conv g) : f = g := by
  cases f; cases g
  simp only [conv, S51.mk.injEq] at h
  rw [h.1, h.2]
theorem made_l0 (l : List S46) (hl : l.length < 4398046511104) : ∀ (d i : Nat) (acc : List S51) (k : Nat), i + d = l.length → acc.length ≤ i → d < k →
    pantrymade_Fields.l0 k acc l (l.length : Int) (i : Int) = some (acc ++ (l.drop i).map conv) := by
  intro d
  induction d with
  | zero =>
    intro i acc k hi ha hk
    obtain ⟨k, rfl⟩ : ∃ j, k = j + 1 := ⟨k - 1, by omega⟩
    simp only [pantrymade_Fields.l0]
    rw [if_neg (by omega), List.drop_of_length_le (by omega)]
    simp
  | succ d ih =>
    intro i acc k hi ha hk
    obtain ⟨k, rfl⟩ : ∃ j, k = j + 1 := ⟨k - 1, by omega⟩
    have hlt : i < l.length := by omega
    simp only [pantrymade_Fields.l0]
    rw [if_pos (by omega), if_pos (by omega), if_pos (by omega), if_pos (by omega), rd39 l i hlt, w64n (by omega) (by omega)]
    have := ih (i + 1) (acc ++ [conv l[i]]) k (by omega) (by simp; omega) (by omega)
    rw [show ((i + 1 : Nat) : Int) = (i : Int) + 1 by omega] at this
    rw [List.drop_eq_getElem_cons hlt, List.map_cons, ← List.singleton_append (x := conv l[i]), ← List.append_assoc]
    exact this
theorem made_eval (l : List S46) (hl : l.length < 4398046511104) (k : Nat) (hk : l.length < k) : pantrymade_Fields.f k l = some (l.map conv) := by
  unfold pantrymade_Fields.f
  have := made_l0 l hl l.length 0 [] k (by omega) (by simp) hk
  simpa using this

/-! The reference's small letters -/
def lowI (x : Int) : Int := if x ≥ 65 ∧ x ≤ 90 then (x + 32) % 256 else x
theorem lowI_u8 (c : UInt8) : UInt8.ofNat (lowI (c.toNat : Int)).toNat = lowU c := by
  have := c.toNat_lt
  unfold lowI lowU
  by_cases h : 65 ≤ c.toNat ∧ c.toNat ≤ 90
  · rw [if_pos (by omega), if_pos h]
    congr 1
    omega
  · rw [if_neg (by omega), if_neg h]
    simp
theorem rlow_l0 (s : ByteArray) (hs : s.size ≤ 140737488351232) : ∀ (d i : Nat) (acc : List Int) (k : Nat), i + d = s.size → acc.length ≤ i → d < k →
    pantryref01_Lower.l0 k s acc (i : Int) = some (strOfNums (acc ++ (s.data.toList.drop i).map fun c => lowI (c.toNat : Int))) := by
  intro d
  induction d with
  | zero =>
    intro i acc k hi ha hk
    obtain ⟨k, rfl⟩ : ∃ j, k = j + 1 := ⟨k - 1, by omega⟩
    have hz : s.data.toList.length = s.size := by simp
    simp only [pantryref01_Lower.l0]
    rw [if_neg (by omega), List.drop_of_length_le (by omega)]
    simp
  | succ d ih =>
    intro i acc k hi ha hk
    obtain ⟨k, rfl⟩ : ∃ j, k = j + 1 := ⟨k - 1, by omega⟩
    have hz : s.data.toList.length = s.size := by simp
    have hlt : i < s.data.toList.length := by omega
    simp only [pantryref01_Lower.l0]
    rw [if_pos (by omega), if_pos (by omega), bt_at2 s i hlt, w64n (by omega) (by omega)]
    have hc := (s.data.toList[i]).toNat_lt
    rw [List.drop_eq_getElem_cons hlt, List.map_cons]
    have step : ∀ x : Int, lowI ((s.data.toList[i]).toNat : Int) = x → pantryref01_Lower.l0 k s (acc ++ [x]) ((i : Int) + 1) = some (strOfNums (acc ++ lowI ((s.data.toList[i]).toNat : Int) :: (s.data.toList.drop (i + 1)).map fun c => lowI (c.toNat : Int))) := by
      rintro x rfl
      have := ih (i + 1) (acc ++ [lowI ((s.data.toList[i]).toNat : Int)]) k (by omega) (by simp; omega) (by omega)
      rw [show ((i + 1 : Nat) : Int) = (i : Int) + 1 by omega] at this
      rw [this, List.append_assoc]
      rfl
    by_cases h1 : ((s.data.toList[i]).toNat : Int) ≥ 65
    · rw [if_pos h1]
      by_cases h2 : ((s.data.toList[i]).toNat : Int) ≤ 90
      · rw [if_pos h2, if_pos (by omega)]
        exact step _ (by unfold lowI; rw [if_pos ⟨h1, h2⟩])
      · rw [if_neg h2, if_pos (by omega)]
        exact step _ (by unfold lowI; rw [if_neg (by omega)])
    · rw [if_neg h1, if_pos (by omega)]
      exact step _ (by unfold lowI; rw [if_neg (by omega)])
theorem rlow_eval (s : ByteArray) (hs : s.size ≤ 140737488351232) (k : Nat) (hk : s.size < k) : pantryref01_Lower.f k s = some (lowB s) := by
  unfold pantryref01_Lower.f
  have := rlow_l0 s hs s.size 0 [] k (by omega) (by simp) hk
  rw [show ((0 : Nat) : Int) = 0 from rfl] at this
  rw [this]
  congr 1
  unfold strOfNums lowB lowL
  simp only [List.nil_append, List.drop_zero, List.map_map]
  congr 2
  apply List.map_congr_left
  intro c _
  exact lowI_u8 c

theorem is_eval (f v n : ByteArray) (hf : f.size ≤ 140737488351232) (hn : n.size ≤ 140737488351232) (k : Nat) (hk : f.size < k) (hk2 : n.size < k) : pantryref03_Field_Is.f k f v n = some (sameB n f) := by
  unfold pantryref03_Field_Is.f
  rw [rlow_eval f hf k hk, rlow_eval n hn k hk2]
  simp only [Option.bind_some]
  congr 1
  unfold sameB
  rw [ByteArray.toList_eq, ByteArray.toList_eq, Bool.eq_iff_iff, beq_iff_eq, beq_iff_eq]
  simp only [lowB]
  exact eq_comm

/-! ## All, Get, Same -/
def allV (n : ByteArray) (l : List S46) : List ByteArray := (l.filter (isOf [n])).map (·.f1)
theorem all_l0 (n : ByteArray) (l : List S46) (hn : n.size ≤ 140737488351232) (hl : ∀ x ∈ l, x.f0.size ≤ 140737488351232) (hlen : l.length < 4398046511104) :
    ∀ (d i : Nat) (acc : List ByteArray) (k : Nat), i + d = l.length → acc.length ≤ i → d < k →
    field_List_All.l0 k n acc l (l.length : Int) (i : Int) = some (acc ++ allV n (l.drop i)) := by
  intro d
  induction d with
  | zero =>
    intro i acc k hi ha hk
    obtain ⟨k, rfl⟩ : ∃ j, k = j + 1 := ⟨k - 1, by omega⟩
    simp only [field_List_All.l0]
    rw [if_neg (by omega), List.drop_of_length_le (by omega)]
    simp [allV]
  | succ d ih =>
    intro i acc k hi ha hk
    obtain ⟨k, rfl⟩ : ∃ j, k = j + 1 := ⟨k - 1, by omega⟩
    have hlt : i < l.length := by omega
    simp only [field_List_All.l0]
    rw [if_pos (by omega), if_pos (by omega), if_pos (by omega), rd39 l i hlt]
    unfold field_Field_named.f
    rw [if_pos ⟨hl _ (List.getElem_mem hlt), by simp, by simpa using hn⟩]
    simp only [Option.bind_some]
    rw [List.drop_eq_getElem_cons hlt, w64n (by omega) (by omega)]
    by_cases hs : isOf [n] l[i] = true
    · have hs' : ([n].any fun n => sameB n l[i].f0) = true := hs
      rw [if_pos hs', if_pos (by omega)]
      have := ih (i + 1) (acc ++ [l[i].f1]) k (by omega) (by simp; omega) (by omega)
      rw [show ((i + 1 : Nat) : Int) = (i : Int) + 1 by omega] at this
      rw [this]
      unfold allV
      rw [List.filter_cons_of_pos hs, List.append_assoc]
      rfl
    · have hs' : ¬ ([n].any fun n => sameB n l[i].f0) = true := hs
      rw [if_neg hs']
      have := ih (i + 1) acc k (by omega) (by omega) (by omega)
      rw [show ((i + 1 : Nat) : Int) = (i : Int) + 1 by omega] at this
      rw [this]
      unfold allV
      rw [List.filter_cons_of_neg hs]
theorem all_eval (n : ByteArray) (l : List S46) (hn : n.size ≤ 140737488351232) (hl : ∀ x ∈ l, x.f0.size ≤ 140737488351232) (hlen : l.length < 4398046511104) (k : Nat) (hk : l.length < k) : field_List_All.f k l n = some (allV n l) := by
  unfold field_List_All.f
  have := all_l0 n l hn hl hlen l.length 0 [] k (by omega) (by simp) hk
  simpa using this
theorem inter_len (sep : List UInt8) (M : Nat) : ∀ (xs : List (List UInt8)), (∀ x ∈ xs, x.length ≤ M) → (sep.intercalate xs).length ≤ xs.length * (M + sep.length) := by
  intro xs
  induction xs with
  | nil => intro _; simp [List.intercalate]
  | cons x xs ih =>
    intro h
    have h1 := h x (by simp)
    have h2 := ih (fun y hy => h y (by simp [hy]))
    cases xs with
    | nil => simp [List.intercalate]; omega
    | cons y ys =>
      have e : sep.intercalate (x :: y :: ys) = x ++ (sep ++ sep.intercalate (y :: ys)) := by simp [List.intercalate]
      rw [e]
      simp only [List.length_append, List.length_cons, Nat.add_mul, Nat.one_mul] at *
      omega
theorem get_eval (n : ByteArray) (l : List S46) (hn : n.size ≤ 140737488351232) (hs : ∀ x ∈ l, x.f0.size ≤ 200 ∧ x.f1.size ≤ 1100) (hlen : l.length ≤ 1000000) (k : Nat) (hk : l.length < k) :
    field_List_Get.f k l n = some (⟨(joinB (allV n l) ⟨#[44, 32]⟩).toArray⟩, decide (0 < (allV n l).length)) := by
  unfold field_List_Get.f
  rw [all_eval n l hn (fun x hx => by have := (hs x hx).1; omega) (by omega) k hk]
  simp only [Option.bind_some]
  have hle : (allV n l).length ≤ l.length := by
    unfold allV
    rw [List.length_map]
    exact List.length_filter_le _ _
  have hok : joinOk (allV n l) ⟨#[44, 32]⟩ := by
    refine ⟨by omega, ?_⟩
    unfold joinB Lib.join
    have := inter_len (⟨#[44, 32]⟩ : ByteArray).data.toList 1100 ((allV n l).map (·.data.toList)) (fun x hx => by
      obtain ⟨y, hy, rfl⟩ := List.mem_map.1 hx
      unfold allV at hy
      obtain ⟨f, hf, rfl⟩ := List.mem_map.1 hy
      have := (hs f (List.mem_filter.1 hf).1).2
      simpa using this)
    rw [List.length_map] at this
    have h2 : ((⟨#[44, 32]⟩ : ByteArray).data.toList).length = 2 := rfl
    rw [h2] at this
    have : (allV n l).length * (1100 + 2) ≤ 1000000 * 1102 := Nat.mul_le_mul_right _ (by omega)
    omega
  unfold strings_Join.f
  rw [if_pos hok]
  simp only [Option.bind_some]
  congr 2
  rw [decide_eq_decide]
  omega

/-! ## FieldParts -/
theorem inter_app (sep : List UInt8) : ∀ (A B : List (List UInt8)), A ≠ [] → B ≠ [] → sep.intercalate (A ++ B) = sep.intercalate A ++ (sep ++ sep.intercalate B) := by
  intro A
  induction A with
  | nil => intro B h; exact absurd rfl h
  | cons x A ih =>
    intro B _ hB
    cases A with
    | nil =>
      cases B with
      | nil => exact absurd rfl hB
      | cons y ys => simp [List.intercalate]
    | cons z A =>
      have := ih B (by simp) hB
      have e1 : sep.intercalate (x :: z :: A) = x ++ (sep ++ sep.intercalate (z :: A)) := by simp [List.intercalate]
      have e2 : sep.intercalate (x :: z :: A ++ B) = x ++ (sep ++ sep.intercalate (z :: A ++ B)) := by simp [List.intercalate]
      rw [e1, e2, this]
      simp
def commaB : ByteArray := ⟨#[44, 32]⟩
def getB (n : ByteArray) (l : List S46) : ByteArray := ⟨(joinB (allV n l) commaB).toArray⟩
theorem getB_list (n : ByteArray) (l : List S46) : (getB n l).toList = joinB (allV n l) commaB := by
  rw [ByteArray.toList_eq]
  simp [getB]
theorem allV_app (n : ByteArray) (a b : List S46) : allV n (a ++ b) = allV n a ++ allV n b := by
  unfold allV
  rw [List.filter_append, List.map_append]
theorem joinB_app (A B : List ByteArray) (hA : A ≠ []) (hB : B ≠ []) : joinB (A ++ B) commaB = joinB A commaB ++ ([44, 32] ++ joinB B commaB) := by
  unfold joinB Lib.join
  rw [List.map_append]
  exact inter_app _ _ _ (by simpa using hA) (by simpa using hB)
theorem getB_size (n : ByteArray) (l : List S46) (h : SmallF l) : (getB n l).size ≤ 80000 := by
  have hle : (allV n l).length ≤ l.length := by
    unfold allV
    rw [List.length_map]
    exact List.length_filter_le _ _
  have := inter_len commaB.data.toList 1100 ((allV n l).map (·.data.toList)) (fun x hx => by
    obtain ⟨y, hy, rfl⟩ := List.mem_map.1 hx
    unfold allV at hy
    obtain ⟨f, hf, rfl⟩ := List.mem_map.1 hy
    have := (h.2 f (List.mem_filter.1 hf).1).2
    simpa using this)
  rw [List.length_map] at this
  have h2 : (commaB.data.toList).length = 2 := rfl
  rw [h2] at this
  have h3 : (allV n l).length * (1100 + 2) ≤ 70 * 1102 := Nat.mul_le_mul_right _ (by have := h.1; omega)
  have h4 : (getB n l).size = (joinB (allV n l) commaB).length := by
    show (joinB (allV n l) commaB).toArray.size = _
    simp
  rw [h4]
  show (List.intercalate _ _).length ≤ _
  omega

/-! ## Lists of elements -/
def endL : Bool → List UInt8 → Nat
  | _, [] => 0
  | q, [c] => if c = 34 then 1 else if q = true ∧ c = 92 then 1 else if q = false ∧ c = 44 then 0 else 1
  | q, c :: d :: l => if c = 34 then 1 + endL (!q) (d :: l) else if q = true ∧ c = 92 then 2 + endL q l else if q = false ∧ c = 44 then 0 else 1 + endL q (d :: l)
theorem endL_le : ∀ (n : Nat) (l : List UInt8) (q : Bool), l.length ≤ n → endL q l ≤ l.length := by
  intro n
  induction n with
  | zero =>
    intro l q h
    obtain rfl := List.eq_nil_of_length_eq_zero (by omega : l.length = 0)
    simp [endL]
  | succ n ih =>
    intro l q h
    match l, h with
    | [], _ => simp [endL]
    | [c], _ =>
      unfold endL
      simp only [List.length_cons, List.length_nil]
      split
      · omega
      · split
        · omega
        · split <;> omega
    | c :: d :: l, h =>
      simp only [List.length_cons] at h
      have h1 := ih (d :: l) (!q) (by simp; omega)
      have h2 := ih l q (by omega)
      have h3 := ih (d :: l) q (by simp; omega)
      unfold endL
      simp only [List.length_cons] at *
      split
      · omega
      · split
        · omega
        · split <;> omega
theorem u8_eq (c d : UInt8) : ((c.toNat : Int) = (d.toNat : Int)) ↔ c = d := by
  constructor
  · intro h
    exact UInt8.toNat_inj.1 (by omega)
  · rintro rfl; rfl
theorem end_past (s : ByteArray) (q : Bool) (i : Nat) (h : s.size ≤ i) (k : Nat) (hk : 0 < k) : sign_end.l0 k s q (i : Int) = some (s.size : Int) := by
  obtain ⟨k, rfl⟩ : ∃ j, k = j + 1 := ⟨k - 1, by omega⟩
  simp only [sign_end.l0]
  rw [if_neg (by omega)]
theorem end_l0 (s : ByteArray) (hs : s.size ≤ 1000000000) : ∀ (d i k : Nat) (q : Bool), i + d = s.size → 2 * d + 1 < k → sign_end.l0 k s q (i : Int) = some ((i + endL q (s.data.toList.drop i) : Nat) : Int) := by
  intro d
  induction d using Nat.strongRecOn with
  | _ d ih =>
    intro i k q hi hk
    have hz : s.data.toList.length = s.size := by simp
    cases d with
    | zero =>
      rw [end_past s q i (by omega) k (by omega), List.drop_of_length_le (by omega)]
      simp only [endL]
      congr 2
      omega
    | succ d =>
      obtain ⟨k, rfl⟩ : ∃ j, k = j + 1 := ⟨k - 1, by omega⟩
      have hlt : i < s.data.toList.length := by omega
      have n1 : ∀ (kk : Nat), 2 * d + 1 < kk → ∀ (q : Bool), sign_end.l0 kk s q ((i : Int) + 1) = some ((i + 1 + endL q (s.data.toList.drop (i + 1)) : Nat) : Int) := fun kk hkk q => by
        have := ih d (by omega) (i + 1) kk q (by omega) hkk
        rwa [show ((i + 1 : Nat) : Int) = (i : Int) + 1 by omega] at this
      have n2 : d = 0 ∨ 0 < d ∧ ∀ (kk : Nat), 2 * d < kk → ∀ (q : Bool), sign_end.l0 kk s q ((i : Int) + 1 + 1) = some ((i + 2 + endL q (s.data.toList.drop (i + 2)) : Nat) : Int) := by
        rcases Nat.eq_zero_or_pos d with h | h
        · exact .inl h
        · refine .inr ⟨h, fun kk hkk q => ?_⟩
          have := ih (d - 1) (by omega) (i + 2) kk q (by omega) (by omega)
          rwa [show ((i + 2 : Nat) : Int) = (i : Int) + 1 + 1 by omega] at this
      simp only [sign_end.l0]
      have hbt := bt_at2 s i hlt
      rw [if_pos (by omega), if_pos (by omega), hbt, w64n (by omega) (by omega)]
      rw [List.drop_eq_getElem_cons hlt]
      have e34 : ((s.data.toList[i]).toNat : Int) = 34 ↔ s.data.toList[i] = 34 := u8_eq _ 34
      have e92 : ((s.data.toList[i]).toNat : Int) = 92 ↔ s.data.toList[i] = 92 := u8_eq _ 92
      have e44 : ((s.data.toList[i]).toNat : Int) = 44 ↔ s.data.toList[i] = 44 := u8_eq _ 44
      generalize s.data.toList[i] = c at *
      have hstep : ∀ (q q' : Bool), endL q (c :: s.data.toList.drop (i + 1)) = 1 + endL q' (s.data.toList.drop (i + 1)) → some ((i + 1 + endL q' (s.data.toList.drop (i + 1)) : Nat) : Int) = some ((i + endL q (c :: s.data.toList.drop (i + 1)) : Nat) : Int) := by
        intro q q' h
        rw [h]
        congr 2
        omega
      by_cases h1 : c = 34
      · rw [if_pos (e34.2 h1), n1 _ (by omega)]
        refine hstep _ _ ?_
        subst h1
        cases s.data.toList.drop (i + 1) <;> simp [endL]
      · rw [if_neg (fun h => h1 (e34.1 h))]
        cases q with
        | true =>
          rw [if_pos rfl]
          obtain ⟨k, rfl⟩ : ∃ j, k = j + 1 := ⟨k - 1, by omega⟩
          simp only [sign_end.j1]
          by_cases h2 : c = 92
          · have hb : (((c.toNat : Int)) == 92) = true := beq_iff_eq.2 (e92.2 h2)
            rw [hb, if_pos rfl, w64n (x := (i : Int) + 1) (by omega) (by omega), w64n (by omega) (by omega)]
            rcases n2 with rfl | ⟨hd0, n2⟩
            · have := end_past s true (i + 2) (by omega) k (by omega)
              rw [show ((i + 2 : Nat) : Int) = (i : Int) + 1 + 1 by omega] at this
              rw [this, List.drop_of_length_le (by omega)]
              subst h2
              have e1 : endL true [(92 : UInt8)] = 1 := by decide
              rw [e1]
              exact congrArg some (by omega)
            · rw [n2 _ (by omega)]
              subst h2
              cases hd : s.data.toList.drop (i + 1) with
              | nil =>
                have := congrArg List.length hd
                rw [List.length_drop] at this
                simp only [List.length_nil] at this
                omega
              | cons x l =>
                have e2 : s.data.toList.drop (i + 2) = l := by
                  have := congrArg (List.drop 1) hd
                  rw [List.drop_drop] at this
                  simpa using this
                rw [e2]
                have e1 : endL true ((92 : UInt8) :: x :: l) = 2 + endL true l := by simp [endL]
                rw [e1]
                exact congrArg some (by omega)
          · have hb : (((c.toNat : Int)) == 92) = false := beq_eq_false_iff_ne.2 (fun h => h2 (e92.1 h))
            rw [hb, if_neg (by simp), if_pos trivial, w64n (by omega) (by omega), n1 _ (by omega)]
            refine hstep _ _ ?_
            cases s.data.toList.drop (i + 1) <;> simp [endL, h1, h2]
        | false =>
          rw [if_neg (by simp)]
          obtain ⟨k, rfl⟩ : ∃ j, k = j + 1 := ⟨k - 1, by omega⟩
          simp only [sign_end.j1]
          rw [if_neg (by simp), if_neg (by simp), if_pos (by omega), if_pos (by omega), hbt]
          by_cases h3 : c = 44
          · rw [if_pos (e44.2 h3)]
            subst h3
            cases s.data.toList.drop (i + 1) <;> simp [endL]
          · rw [if_neg (fun h => h3 (e44.1 h)), w64n (by omega) (by omega), n1 _ (by omega)]
            refine hstep _ _ ?_
            cases s.data.toList.drop (i + 1) <;> simp [endL, h1, h3]

def toB (l : List UInt8) : ByteArray := ⟨l.toArray⟩
theorem toB_list (l : List UInt8) : (toB l).data.toList = l := by simp [toB]
theorem of_list (s : ByteArray) : toB s.data.toList = s := by cases s; simp [toB]
theorem size_l (s : ByteArray) : s.size = s.data.toList.length := by simp
theorem ext_l (s : ByteArray) (a b : Nat) : (s.extract a b).data.toList = (s.data.toList.drop a).take (b - a) := by
  rw [ByteArray.data_extract, Array.toList_extract]
def trimL (l : List UInt8) : List UInt8 := Lib.trimS l [32, 9]
theorem dropWhile_len {α : Type} (p : α → Bool) (l : List α) : (l.dropWhile p).length ≤ l.length := (List.dropWhile_sublist p).length_le
theorem trimL_len (l : List UInt8) : (trimL l).length ≤ l.length := by
  unfold trimL Lib.trimS Lib.trimLeftS Lib.trimRightS
  refine Nat.le_trans (dropWhile_len _ _) ?_
  rw [List.length_reverse]
  refine Nat.le_trans (dropWhile_len _ _) ?_
  rw [List.length_reverse]
  exact Nat.le_refl _
theorem trim_eval (s : ByteArray) (hs : s.size ≤ 9223372036854775807) : sign_Trim.f s = some (toB (trimL s.data.toList)) := by
  unfold sign_Trim.f strings_Trim.f
  rw [if_pos ⟨hs, by decide, by decide⟩]
  rfl
def listL : Nat → List UInt8 → List (List UInt8)
  | 0, _ => []
  | k + 1, l => if l = [] then [] else (if trimL (l.take (endL false l)) = [] then [] else [trimL (l.take (endL false l))]) ++ listL k (l.drop (endL false l + 1))
theorem list_l0 : ∀ (n : Nat) (s : ByteArray) (acc : List ByteArray) (k : Nat), s.size ≤ n → n ≤ 1000000000 → acc.length + s.size ≤ 1000000000 → 3 * n + 10 < k →
    sign_List.l0 k s acc = some (acc ++ (listL (n + 1) s.data.toList).map toB) := by
  intro n
  induction n with
  | zero =>
    intro s acc k h0 h1 h2 hk
    obtain ⟨k, rfl⟩ : ∃ j, k = j + 1 := ⟨k - 1, by omega⟩
    have hnil : s.data.toList = [] := List.eq_nil_of_length_eq_zero (by rw [← size_l]; omega)
    simp only [sign_List.l0]
    rw [ByteArray.toList_eq, hnil, if_pos rfl]
    simp [listL]
  | succ n ih =>
    intro s acc k h0 h1 h2 hk
    obtain ⟨k, rfl⟩ : ∃ j, k = j + 1 := ⟨k - 1, by omega⟩
    simp only [sign_List.l0]
    rw [ByteArray.toList_eq]
    by_cases hnil : s.data.toList = []
    · rw [if_pos hnil, hnil]
      simp [listL]
    · rw [if_neg hnil]
      have hpos : 0 < s.size := by
        rw [size_l]
        exact List.length_pos_iff.2 hnil
      have he : sign_end.f k s = some ((endL false s.data.toList : Nat) : Int) := by
        unfold sign_end.f
        have := end_l0 s (by omega) s.size 0 k false (by omega) (by omega)
        rw [List.drop_zero, Nat.zero_add] at this
        exact this
      have hle := endL_le s.data.toList.length s.data.toList false (Nat.le_refl _)
      rw [← size_l] at hle
      rw [he]
      simp only [Option.bind_some]
      rw [listL, if_neg hnil]
      generalize hE : endL false s.data.toList = E at *
      rw [if_pos (by omega), if_pos (by omega), trim_eval _ (by rw [ByteArray.size_extract]; omega)]
      simp only [Option.bind_some]
      rw [ByteArray.toList_eq, toB_list, ext_l, Int.toNat_natCast, List.drop_zero, Nat.sub_zero]
      have hmn : mn (wrap64 ((E : Int) + 1)) (s.size : Int) = ((min (E + 1) s.size : Nat) : Int) := by
        rw [w64n (by omega) (by omega)]
        unfold mn
        split <;> omega
      rw [hmn, Int.toNat_natCast]
      have hsz : (s.extract (min (E + 1) s.size) s.size).size ≤ n := by rw [ByteArray.size_extract]; omega
      have hdl : (s.extract (min (E + 1) s.size) s.size).data.toList = s.data.toList.drop (E + 1) := by
        rw [ext_l]
        have hz := size_l s
        by_cases hc : E + 1 ≤ s.size
        · rw [Nat.min_eq_left hc]
          exact List.take_of_length_le (by rw [List.length_drop]; omega)
        · rw [List.drop_of_length_le (l := s.data.toList) (i := E + 1) (by omega), List.drop_of_length_le (by omega)]
          exact List.take_nil
      have hsz2 : (s.extract (min (E + 1) s.size) s.size).size ≤ s.size - 1 := by rw [ByteArray.size_extract]; omega
      by_cases ht : trimL (s.data.toList.take E) = []
      · rw [if_pos ht, if_pos ht, if_pos (by omega), if_pos (by omega), List.nil_append]
        rw [ih _ acc k hsz (by omega) (by omega) (by omega), hdl]
      · rw [if_neg ht, if_neg ht, if_pos (by omega), if_pos (by omega), if_pos (by omega)]
        rw [ih _ (acc ++ [toB (trimL (s.data.toList.take E))]) k hsz (by omega) (by simp; omega) (by omega), hdl]
        simp
theorem list_eval (s : ByteArray) (hs : s.size ≤ 1000000) (k : Nat) (hk : 3000100 < k) : sign_List.f k s = some ((listL (s.size + 1) s.data.toList).map toB) := by
  unfold sign_List.f
  have := list_l0 s.size s [] k (Nat.le_refl _) (by omega) (by simp; omega) (by omega)
  simpa using this
theorem listL_len : ∀ (n : Nat) (l : List UInt8), (listL n l).length ≤ n ∧ ∀ x ∈ listL n l, x.length ≤ l.length := by
  intro n
  induction n with
  | zero => intro l; simp [listL]
  | succ n ih =>
    intro l
    rw [listL]
    by_cases h : l = []
    · rw [if_pos h]; simp
    · rw [if_neg h]
      obtain ⟨i1, i2⟩ := ih (l.drop (endL false l + 1))
      have hd : (l.drop (endL false l + 1)).length ≤ l.length := by rw [List.length_drop]; omega
      by_cases ht : trimL (l.take (endL false l)) = []
      · rw [if_pos ht, List.nil_append]
        exact ⟨by omega, fun x hx => Nat.le_trans (i2 x hx) hd⟩
      · rw [if_neg ht]
        refine ⟨by simp; omega, fun x hx => ?_⟩
        rcases List.mem_append.1 hx with hx | hx
        · obtain rfl := List.mem_singleton.1 hx
          refine Nat.le_trans (trimL_len _) ?_
          rw [List.length_take]
          omega
        · exact Nat.le_trans (i2 x hx) hd
def elemsB (n : ByteArray) (l : List S46) : List ByteArray := (listL ((getB n l).size + 1) (getB n l).data.toList).map toB
theorem elems_eval (n : ByteArray) (l : List S46) (hn : n.size ≤ 1000) (h : SmallF l) (k : Nat) (hk : 3000100 < k) : field_List_Elements.f k l n = some (elemsB n l) := by
  unfold field_List_Elements.f
  have g : field_List_Get.f k l n = some (getB n l, decide (0 < (allV n l).length)) := get_eval n l (by omega) h.2 (by have := h.1; omega) k (by have := h.1; omega)
  rw [g]
  simp only [Option.bind_some]
  have := getB_size n l h
  rw [list_eval _ (by omega) k hk]
  rfl
theorem elems_ok (n : ByteArray) (l : List S46) (h : SmallF l) : (elemsB n l).length ≤ 100000 ∧ ∀ x ∈ elemsB n l, x.size ≤ 80000 := by
  have hg := getB_size n l h
  obtain ⟨i1, i2⟩ := listL_len ((getB n l).size + 1) (getB n l).data.toList
  unfold elemsB
  refine ⟨by rw [List.length_map]; omega, fun x hx => ?_⟩
  obtain ⟨y, hy, rfl⟩ := List.mem_map.1 hx
  have := i2 y hy
  rw [← size_l] at this
  rw [size_l, toB_list]
  omega

/-! Small letters of small letters -/
theorem lowU_idem (c : UInt8) : lowU (lowU c) = lowU c := by
  unfold lowU
  by_cases h : 65 ≤ c.toNat ∧ c.toNat ≤ 90
  · rw [if_pos h]
    have e : (UInt8.ofNat (c.toNat + 32)).toNat = c.toNat + 32 := by simp; omega
    rw [if_neg (by rw [e]; omega)]
  · rw [if_neg h, if_neg h]
theorem lowL_idem (l : List UInt8) : lowL (lowL l) = lowL l := by
  unfold lowL
  rw [List.map_map]
  exact List.map_congr_left fun c _ => lowU_idem c
theorem lowB_size (s : ByteArray) : (lowB s).size = s.size := by
  rw [size_l, size_l, lowB_list]
  simp [lowL]
theorem sameB_low (a b : ByteArray) : sameB (lowB a) b = sameB a b := by
  unfold sameB
  rw [lowB_list, lowL_idem]
theorem sameB_low2 (a b : ByteArray) : sameB a (lowB b) = sameB a b := by
  unfold sameB
  rw [lowB_list, lowL_idem]

/-! ## The reference's lists -/
def rtr (l : List UInt8) : List UInt8 := (l.reverse.dropWhile (([32, 9] : List UInt8).contains ·)).reverse
def blk (c : UInt8) : Bool := ([32, 9] : List UInt8).contains c
theorem blank_eval (c : UInt8) : pantryref01_blank.f (c.toNat : Int) = some (blk c) := by
  have e32 : (c.toNat : Int) = 32 ↔ c = 32 := u8_eq c 32
  have e9 : (c.toNat : Int) = 9 ↔ c = 9 := u8_eq c 9
  unfold pantryref01_blank.f blk
  by_cases h : c = 32
  · subst h; rfl
  · rw [if_neg (fun x => h (e32.1 x))]
    by_cases h2 : c = 9
    · subst h2; rfl
    · have hb : ((c.toNat : Int) == 9) = false := beq_eq_false_iff_ne.2 (fun x => h2 (e9.1 x))
      rw [hb]
      simp [h, h2]
theorem rtr_snoc (l : List UInt8) (x : UInt8) : rtr (l ++ [x]) = if blk x = true then rtr l else l ++ [x] := by
  unfold rtr blk
  rw [List.reverse_append, List.reverse_singleton, List.singleton_append, List.dropWhile_cons]
  by_cases h : ([32, 9] : List UInt8).contains x = true
  · rw [if_pos h, if_pos h]
  · rw [if_neg h, if_neg h]
    simp
theorem rtrP_cons (p : UInt8 → Bool) (l : List UInt8) (x : UInt8) : ((x :: l).reverse.dropWhile p).reverse = if (l.reverse.dropWhile p).reverse = [] ∧ p x = true then [] else x :: (l.reverse.dropWhile p).reverse := by
  rw [List.reverse_cons, List.dropWhile_append]
  cases h : l.reverse.dropWhile p with
  | nil =>
    by_cases h2 : p x = true
    · simp [h2]
    · simp [h2]
  | cons y ys => simp
theorem rtr_cons (l : List UInt8) (x : UInt8) : rtr (x :: l) = if rtr l = [] ∧ blk x = true then [] else x :: rtr l := rtrP_cons blk l x
theorem trimL_eq (l : List UInt8) : rtr (l.dropWhile blk) = trimL l := by
  show rtr (l.dropWhile blk) = (rtr l).dropWhile blk
  induction l with
  | nil => rfl
  | cons x l ih =>
    rw [rtr_cons, List.dropWhile_cons]
    by_cases h : blk x = true
    · rw [if_pos h, ih]
      by_cases h2 : rtr l = []
      · rw [if_pos ⟨h2, h⟩, h2]
      · rw [if_neg (fun x => h2 x.1), List.dropWhile_cons, if_pos h]
    · rw [if_neg h, rtr_cons, if_neg (fun x => h x.2), List.dropWhile_cons, if_neg h]
theorem take_succ (l : List UInt8) (i : Nat) (h : i < l.length) : l.take (i + 1) = l.take i ++ [l[i]] := List.take_succ_eq_append_getElem h
theorem sub_snoc (l : List UInt8) (a b : Nat) (hab : a ≤ b) (h : b < l.length) : (l.drop a).take (b + 1 - a) = (l.drop a).take (b - a) ++ [l[b]] := by
  have h1 : b - a < (l.drop a).length := by rw [List.length_drop]; omega
  have h2 := List.take_succ_eq_append_getElem h1
  rw [List.getElem_drop] at h2
  rw [show b + 1 - a = b - a + 1 by omega, h2]
  have : a + (b - a) = b := by omega
  simp only [this]
theorem ext_toB (s : ByteArray) (a b : Nat) : s.extract a b = toB ((s.data.toList.drop a).take (b - a)) := by
  rw [← ext_l, of_list]
theorem rtrim_l1 (s : ByteArray) (hs : s.size ≤ 1000000000) (a : Nat) : ∀ (d k : Nat), a + d ≤ s.size → d < k → pantryref01_Trim.l1 k s (a : Int) ((a + d : Nat) : Int) = some (toB (rtr ((s.data.toList.drop a).take d))) := by
  intro d
  induction d with
  | zero =>
    intro k hd hk
    obtain ⟨k, rfl⟩ : ∃ j, k = j + 1 := ⟨k - 1, by omega⟩
    simp only [pantryref01_Trim.l1]
    rw [if_neg (by omega), if_pos (by omega), if_pos (by omega), if_pos (by omega), ext_toB]
    simp [rtr]
  | succ d ih =>
    intro k hd hk
    obtain ⟨k, rfl⟩ : ∃ j, k = j + 1 := ⟨k - 1, by omega⟩
    have hz := size_l s
    have hlt : a + d < s.data.toList.length := by omega
    simp only [pantryref01_Trim.l1]
    have hw : wrap64 (((a + (d + 1) : Nat) : Int) - 1) = ((a + d : Nat) : Int) := by
      rw [w64n (by omega) (by omega)]
      omega
    rw [hw, if_pos (by omega), if_pos (by omega), if_pos (by omega), bt_at2 s (a + d) hlt, blank_eval]
    simp only [Option.bind_some]
    have hsn := sub_snoc s.data.toList a (a + d) (by omega) hlt
    rw [show a + d + 1 - a = d + 1 by omega, show a + d - a = d by omega] at hsn
    rw [hsn, rtr_snoc]
    by_cases h : blk s.data.toList[a + d] = true
    · rw [if_pos h, if_pos h]
      exact ih k (by omega) (by omega)
    · rw [if_neg h, if_neg h, if_pos (by omega), if_pos (by omega), if_pos (by omega), ext_toB, Int.toNat_natCast, Int.toNat_natCast, show a + (d + 1) - a = d + 1 by omega, hsn]
theorem rtrim_l0 (s : ByteArray) (hs : s.size ≤ 1000000000) : ∀ (d a k : Nat), a + d = s.size → 2 * d + 3 < k → pantryref01_Trim.l0 k s (a : Int) (s.size : Int) = some (toB (rtr ((s.data.toList.drop a).dropWhile blk))) := by
  intro d
  induction d with
  | zero =>
    intro a k hd hk
    obtain ⟨k, rfl⟩ : ∃ j, k = j + 1 + 1 := ⟨k - 2, by omega⟩
    have hz := size_l s
    simp only [pantryref01_Trim.l0]
    rw [if_neg (by omega)]
    simp only [pantryref01_Trim.j1]
    have := rtrim_l1 s hs a 0 k (by omega) (by omega)
    rw [show a + 0 = s.size by omega] at this
    rw [this, List.drop_of_length_le (by omega)]
    rfl
  | succ d ih =>
    intro a k hd hk
    obtain ⟨k, rfl⟩ : ∃ j, k = j + 1 + 1 := ⟨k - 2, by omega⟩
    have hz := size_l s
    have hlt : a < s.data.toList.length := by omega
    simp only [pantryref01_Trim.l0]
    rw [if_pos (by omega), if_pos (by omega), if_pos (by omega), bt_at2 s a hlt, blank_eval]
    simp only [Option.bind_some]
    rw [List.drop_eq_getElem_cons hlt, List.dropWhile_cons]
    by_cases h : blk s.data.toList[a] = true
    · rw [if_pos h, if_pos h, w64n (by omega) (by omega)]
      have := ih (a + 1) (k + 1) (by omega) (by omega)
      rw [show ((a + 1 : Nat) : Int) = (a : Int) + 1 by omega] at this
      exact this
    · rw [if_neg h, if_neg h]
      simp only [pantryref01_Trim.j1]
      have := rtrim_l1 s hs a (d + 1) k (by omega) (by omega)
      rw [show a + (d + 1) = s.size by omega] at this
      rw [this, ← List.drop_eq_getElem_cons hlt, List.take_of_length_le (by rw [List.length_drop]; omega)]
theorem rtrim_eval (s : ByteArray) (hs : s.size ≤ 1000000000) (k : Nat) (hk : 2 * s.size + 3 < k) : pantryref01_Trim.f k s = some (toB (trimL s.data.toList)) := by
  unfold pantryref01_Trim.f
  have := rtrim_l0 s hs s.size 0 k (by omega) hk
  rw [List.drop_zero, trimL_eq] at this
  exact this
def quotL : Bool → Bool → List UInt8 → List Bool
  | _, _, [] => []
  | q, sk, c :: l => (q || c == 34) :: (if sk = true then quotL q false l else if q = true ∧ c = 92 then quotL q true l else if c = 34 then quotL (!q) sk l else quotL q sk l)
theorem quotL_len : ∀ (l : List UInt8) (q sk : Bool), (quotL q sk l).length = l.length := by
  intro l
  induction l with
  | nil => intro q sk; rfl
  | cons c l ih =>
    intro q sk
    unfold quotL
    rw [List.length_cons, List.length_cons]
    split
    · rw [ih]
    · split
      · rw [ih]
      · split <;> rw [ih]
theorem set_take {α : Type} (l : List α) (i : Nat) (v : α) (h : i < l.length) : (l.set i v).take (i + 1) = l.take i ++ [v] := by
  have h1 : i < (l.set i v).length := by simpa using h
  rw [List.take_succ_eq_append_getElem h1, List.take_set_of_le (Nat.le_refl _)]
  simp
theorem quoted_l0 (s : ByteArray) (hs : s.size ≤ 1000000000) : ∀ (d i : Nat) (out : List Bool) (q sk : Bool) (k : Nat), i + d = s.size → out.length = s.size → 3 * d < k →
    pantryref01_quoted.l0 k s out q sk (i : Int) = some (out.take i ++ quotL q sk (s.data.toList.drop i)) := by
  intro d
  induction d with
  | zero =>
    intro i out q sk k hi ho hk
    obtain ⟨k, rfl⟩ : ∃ j, k = j + 1 := ⟨k - 1, by omega⟩
    have hz := size_l s
    simp only [pantryref01_quoted.l0]
    rw [if_neg (by omega), List.drop_of_length_le (by omega), List.take_of_length_le (by omega)]
    simp [quotL]
  | succ d ih =>
    intro i out q sk k hi ho hk
    obtain ⟨k, rfl⟩ : ∃ j, k = j + 1 + 1 + 1 := ⟨k - 3, by omega⟩
    have hz := size_l s
    have hlt : i < s.data.toList.length := by omega
    have hbt := bt_at2 s i hlt
    have e34 : ((s.data.toList[i]).toNat : Int) = 34 ↔ s.data.toList[i] = 34 := u8_eq _ 34
    have e92 : ((s.data.toList[i]).toNat : Int) = 92 ↔ s.data.toList[i] = 92 := u8_eq _ 92
    rw [List.drop_eq_getElem_cons hlt]
    have hcont : ∀ (v q' sk' : Bool) (kk : Nat), 3 * d < kk → v = (q || s.data.toList[i] == 34) → (quotL q sk (s.data.toList[i] :: s.data.toList.drop (i + 1)) = (q || s.data.toList[i] == 34) :: quotL q' sk' (s.data.toList.drop (i + 1))) →
        pantryref01_quoted.l0 kk s (out.set i v) q' sk' ((i : Int) + 1) = some (out.take i ++ quotL q sk (s.data.toList[i] :: s.data.toList.drop (i + 1))) := by
      intro v q' sk' kk hkk hv he
      have := ih (i + 1) (out.set i v) q' sk' kk (by omega) (by simpa using ho) hkk
      rw [show ((i + 1 : Nat) : Int) = (i : Int) + 1 by omega] at this
      rw [this, he, set_take _ _ _ (by omega), hv]
      simp
    have key : ∀ v : Bool, v = (q || s.data.toList[i] == 34) → pantryref01_quoted.j1 (k + 1 + 1) s (out.set i v) q sk (i : Int) = some (out.take i ++ quotL q sk (s.data.toList[i] :: s.data.toList.drop (i + 1))) := by
      intro v hv
      simp only [pantryref01_quoted.j1]
      rw [hbt, w64n (by omega) (by omega)]
      cases sk with
      | true =>
        rw [if_pos rfl]
        exact hcont v q false _ (by omega) hv (by simp [quotL])
      | false =>
        rw [if_neg (by simp)]
        have j2 : ∀ b : Bool, b = decide (q = true ∧ s.data.toList[i] = 92) → pantryref01_quoted.j2 (k + 1) s (out.set i v) q false (i : Int) b = some (out.take i ++ quotL q false (s.data.toList[i] :: s.data.toList.drop (i + 1))) := by
          intro b hb
          simp only [pantryref01_quoted.j2]
          rw [hbt, w64n (by omega) (by omega)]
          by_cases h : q = true ∧ s.data.toList[i] = 92
          · rw [hb, if_pos (decide_eq_true h)]
            exact hcont v q true _ (by omega) hv (by simp only [quotL]; rw [if_neg (by simp), if_pos h])
          · rw [hb, if_neg (by rw [decide_eq_false h]; simp), if_pos (by omega), if_pos (by omega)]
            by_cases h2 : s.data.toList[i] = 34
            · rw [if_pos (e34.2 h2)]
              exact hcont v (!q) false _ (by omega) hv (by simp only [quotL]; rw [if_neg (by simp), if_neg h, if_pos h2])
            · rw [if_neg (fun x => h2 (e34.1 x))]
              exact hcont v q false _ (by omega) hv (by simp only [quotL]; rw [if_neg (by simp), if_neg h, if_neg h2])
        cases q with
        | true =>
          rw [if_pos rfl, if_pos (by omega), if_pos (by omega)]
          refine j2 _ ?_
          by_cases h : s.data.toList[i] = 92
          · rw [decide_eq_true ⟨rfl, h⟩]
            exact beq_iff_eq.2 (e92.2 h)
          · rw [decide_eq_false (fun x => h x.2)]
            exact beq_eq_false_iff_ne.2 (fun x => h (e92.1 x))
        | false =>
          rw [if_neg (by simp)]
          exact j2 _ (by simp)
    simp only [pantryref01_quoted.l0]
    rw [if_pos (by omega), Int.toNat_natCast, hbt]
    cases q with
    | true =>
      rw [if_pos rfl, if_pos (by omega), if_pos (by omega)]
      exact key _ (by simp)
    | false =>
      rw [if_neg (by simp), if_pos (by omega), if_pos (by omega)]
      refine key _ ?_
      rw [Bool.false_or]
      by_cases h : s.data.toList[i] = 34
      · rw [beq_iff_eq.2 h]
        exact beq_iff_eq.2 (e34.2 h)
      · rw [beq_eq_false_iff_ne.2 h]
        exact beq_eq_false_iff_ne.2 (fun x => h (e34.1 x))
theorem quoted_eval (s : ByteArray) (hs : s.size ≤ 1000000000) (k : Nat) (hk : 3 * s.size < k) : pantryref01_quoted.f k s = some (quotL false false s.data.toList) := by
  unfold pantryref01_quoted.f
  rw [if_pos (by omega), if_pos (by omega)]
  have := quoted_l0 s hs s.size 0 (List.replicate s.size false) false false k (by omega) (by simp) hk
  simpa using this
def addE (cur : List UInt8) : List (List UInt8) := if trimL cur = [] then [] else [trimL cur]
def refgo : List UInt8 → List UInt8 → List Bool → List (List UInt8)
  | cur, [], _ => addE cur
  | cur, _ :: _, [] => addE cur
  | cur, c :: l, f :: fs => if c = 44 ∧ f = false then addE cur ++ refgo [] l fs else refgo (cur ++ [c]) l fs
theorem rlist_l0 (s : ByteArray) (hs : s.size ≤ 1000000000) (qs : List Bool) (hq : qs.length = s.size) : ∀ (d last i : Nat) (out : List ByteArray) (k : Nat), i + d = s.size → last ≤ i → out.length ≤ i → 2 * d + 2 * s.size + 10 < k →
    pantryref01_List.l0 k s qs out (last : Int) (i : Int) = some (out ++ (refgo ((s.data.toList.drop last).take (i - last)) (s.data.toList.drop i) (qs.drop i)).map toB) := by
  have hz := size_l s
  have trim : ∀ (last i : Nat) (k : Nat), last ≤ i → i ≤ s.size → 2 * s.size + 3 < k → pantryref01_Trim.f k (s.extract last i) = some (toB (trimL ((s.data.toList.drop last).take (i - last)))) := by
    intro last i k h1 h2 hk
    rw [rtrim_eval _ (by rw [ByteArray.size_extract]; omega) k (by rw [ByteArray.size_extract]; omega), ext_l]
  have emp : ∀ l : List UInt8, (toB l).toList = [] ↔ l = [] := fun l => by rw [ByteArray.toList_eq, toB_list]
  intro d
  induction d with
  | zero =>
    intro last i out k hi hl ho hk
    obtain ⟨k, rfl⟩ : ∃ j, k = j + 1 + 1 + 1 := ⟨k - 3, by omega⟩
    simp only [pantryref01_List.l0]
    rw [if_pos (by omega), if_neg (by omega)]
    simp only [pantryref01_List.j1]
    rw [if_neg (by simp), if_pos (by omega), if_pos (by omega), if_pos (by omega), Int.toNat_natCast, Int.toNat_natCast, trim last i _ hl (by omega) (by omega), w64n (by omega) (by omega)]
    simp only [Option.bind_some]
    rw [List.drop_of_length_le (l := s.data.toList) (i := i) (by omega)]
    simp only [refgo, addE, pantryref01_List.l0]
    by_cases h : trimL ((s.data.toList.drop last).take (i - last)) = []
    · rw [if_pos ((emp _).2 h), if_neg (by omega), if_pos h]
      simp
    · rw [if_neg (fun x => h ((emp _).1 x)), if_pos (by omega), if_neg (by omega), if_neg h]
      simp
  | succ d ih =>
    intro last i out k hi hl ho hk
    obtain ⟨k, rfl⟩ : ∃ j, k = j + 1 + 1 := ⟨k - 2, by omega⟩
    have hlt : i < s.data.toList.length := by omega
    have hlq : i < qs.length := by omega
    have e44 : ((s.data.toList[i]).toNat : Int) = 44 ↔ s.data.toList[i] = 44 := u8_eq _ 44
    rw [List.drop_eq_getElem_cons hlt, List.drop_eq_getElem_cons hlq]
    simp only [refgo]
    have goon : ¬ (s.data.toList[i] = 44 ∧ qs[i] = false) → pantryref01_List.j1 (k + 1) s qs out (last : Int) (i : Int) true = some (out ++ (if s.data.toList[i] = 44 ∧ qs[i] = false then addE ((s.data.toList.drop last).take (i - last)) ++ refgo [] (s.data.toList.drop (i + 1)) (qs.drop (i + 1)) else refgo ((s.data.toList.drop last).take (i - last) ++ [s.data.toList[i]]) (s.data.toList.drop (i + 1)) (qs.drop (i + 1))).map toB) := by
      intro h
      rw [if_neg h, ← sub_snoc _ _ _ hl hlt]
      simp only [pantryref01_List.j1]
      rw [if_pos trivial, w64n (by omega) (by omega)]
      have := ih last (i + 1) out k (by omega) (by omega) (by omega) (by omega)
      rw [show ((i + 1 : Nat) : Int) = (i : Int) + 1 by omega] at this
      exact this
    simp only [pantryref01_List.l0]
    rw [if_pos (by omega), if_pos (by omega), if_pos (by omega), bt_at2 s i hlt]
    by_cases h1 : s.data.toList[i] = 44
    · rw [if_pos (e44.2 h1), if_pos (by omega)]
      have hr : rdOf false qs (i : Int) = qs[i] := by simp [rdOf, hlq]
      rw [hr]
      cases h2 : qs[i] with
      | true =>
        have := goon (by rw [h2]; simp)
        rw [h2] at this
        exact this
      | false =>
        rw [if_pos ⟨h1, rfl⟩]
        simp only [pantryref01_List.j1]
        rw [if_neg (by simp), if_pos (by omega), if_pos (by omega), if_pos (by omega), Int.toNat_natCast, Int.toNat_natCast, trim last i _ hl (by omega) (by omega), w64n (by omega) (by omega)]
        simp only [Option.bind_some]
        have nx : ∀ o : List ByteArray, o.length ≤ i + 1 → pantryref01_List.l0 k s qs o ((i : Int) + 1) ((i : Int) + 1) = some (o ++ (refgo [] (s.data.toList.drop (i + 1)) (qs.drop (i + 1))).map toB) := by
          intro o ho
          have := ih (i + 1) (i + 1) o k (by omega) (by omega) ho (by omega)
          rw [show ((i + 1 : Nat) : Int) = (i : Int) + 1 by omega, Nat.sub_self, List.take_zero] at this
          exact this
        unfold addE
        by_cases h : trimL ((s.data.toList.drop last).take (i - last)) = []
        · rw [if_pos ((emp _).2 h), if_pos h, nx _ (by omega)]
          simp
        · rw [if_neg (fun x => h ((emp _).1 x)), if_neg h, if_pos (by omega), nx _ (by simp; omega)]
          simp
    · rw [if_neg (fun x => h1 (e44.1 x))]
      exact goon (fun x => h1 x.1)
theorem refgo_end : ∀ (n : Nat) (l : List UInt8) (q : Bool) (cur : List UInt8), l.length ≤ n →
    refgo cur l (quotL q false l) = addE (cur ++ l.take (endL q l)) ++ (if endL q l < l.length then refgo [] (l.drop (endL q l + 1)) (quotL false false (l.drop (endL q l + 1))) else []) := by
  intro n
  induction n with
  | zero =>
    intro l q cur h
    obtain rfl := List.eq_nil_of_length_eq_zero (by omega : l.length = 0)
    simp [refgo, endL, quotL]
  | succ n ih =>
    intro l q cur h
    match l, h with
    | [], _ => simp [refgo, endL, quotL]
    | [c], _ =>
      by_cases h1 : c = 34
      · subst h1
        simp [refgo, endL, quotL]
      · by_cases h2 : q = true ∧ c = 92
        · obtain ⟨rfl, rfl⟩ := h2
          simp [refgo, endL, quotL]
        · by_cases h3 : q = false ∧ c = 44
          · obtain ⟨rfl, rfl⟩ := h3
            simp [refgo, endL, quotL]
          · have h4 : ¬ (c = 44 ∧ q = false) := fun x => h3 ⟨x.2, x.1⟩
            have e : endL q [c] = 1 := by simp only [endL]; rw [if_neg h1, if_neg h2, if_neg h3]
            rw [e]
            simp only [quotL, refgo]
            rw [if_neg (by intro x; exact h4 ⟨x.1, by cases q <;> simp_all⟩)]
            simp
    | c :: d :: l, h =>
      simp only [List.length_cons] at h
      by_cases h1 : c = 34
      · subst h1
        have e : endL q (34 :: d :: l) = 1 + endL (!q) (d :: l) := by simp [endL]
        have e2 : quotL q false (34 :: d :: l) = true :: quotL (!q) false (d :: l) := by simp [quotL]
        have e3 : ∀ f fs, refgo cur ((34 : UInt8) :: d :: l) (f :: fs) = refgo (cur ++ [34]) (d :: l) fs := fun f fs => by
          rw [refgo, if_neg (fun x => absurd x.1 (by decide))]
        rw [e, e2, e3, ih (d :: l) (!q) (cur ++ [34]) (by simp; omega)]
        rw [Nat.add_comm 1]
        simp only [List.take_succ_cons, List.drop_succ_cons, List.length_cons, Nat.add_lt_add_iff_right, List.append_assoc, List.singleton_append]
      · by_cases h2 : q = true ∧ c = 92
        · obtain ⟨rfl, rfl⟩ := h2
          have e : endL true (92 :: d :: l) = endL true l + 1 + 1 := by simp [endL]; omega
          have e2 : quotL true false (92 :: d :: l) = true :: true :: quotL true false l := by simp [quotL]
          have e3 : refgo cur ((92 : UInt8) :: d :: l) (true :: true :: quotL true false l) = refgo (cur ++ [92] ++ [d]) l (quotL true false l) := by
            rw [refgo, if_neg (fun x => absurd x.1 (by decide)), refgo, if_neg (by simp)]
          rw [e, e2, e3, ih l true (cur ++ [92] ++ [d]) (by omega)]
          rw [List.take_succ_cons, List.take_succ_cons, List.drop_succ_cons, List.drop_succ_cons, List.length_cons, List.length_cons]
          simp only [Nat.add_lt_add_iff_right, List.append_assoc, List.singleton_append, List.cons_append, List.nil_append]
        · by_cases h3 : q = false ∧ c = 44
          · obtain ⟨rfl, rfl⟩ := h3
            simp [refgo, endL, quotL]
          · have e : endL q (c :: d :: l) = 1 + endL q (d :: l) := by rw [endL, if_neg h1, if_neg h2, if_neg h3]
            have e2 : quotL q false (c :: d :: l) = (q || c == 34) :: quotL q false (d :: l) := by
              rw [quotL, if_neg (by simp), if_neg h2, if_neg h1]
            have e3 : ∀ fs, refgo cur (c :: d :: l) ((q || c == 34) :: fs) = refgo (cur ++ [c]) (d :: l) fs := fun fs => by
              rw [refgo, if_neg (fun x => h3 ⟨by cases q <;> simp_all, x.1⟩)]
            rw [e, e2, e3, ih (d :: l) q (cur ++ [c]) (by simp; omega)]
            rw [Nat.add_comm 1]
            simp only [List.take_succ_cons, List.drop_succ_cons, List.length_cons, Nat.add_lt_add_iff_right, List.append_assoc, List.singleton_append]
theorem listL_ref : ∀ (n : Nat) (l : List UInt8), l.length ≤ n → listL (n + 1) l = refgo [] l (quotL false false l) := by
  intro n
  induction n with
  | zero =>
    intro l h
    obtain rfl := List.eq_nil_of_length_eq_zero (by omega : l.length = 0)
    rfl
  | succ n ih =>
    intro l h
    rw [listL, refgo_end (n + 1) l false [] h]
    by_cases hl : l = []
    · subst hl
      rfl
    · rw [if_neg hl, List.nil_append]
      have hpos : 0 < l.length := List.length_pos_iff.2 hl
      have hd : (l.drop (endL false l + 1)).length ≤ n := by rw [List.length_drop]; omega
      rw [ih _ hd]
      congr 1
      by_cases hc : endL false l < l.length
      · rw [if_pos hc]
      · rw [if_neg hc, List.drop_of_length_le (by omega)]
        rfl
theorem rlist_eval (s : ByteArray) (hs : s.size ≤ 1000000) (k : Nat) (hk : 4000100 < k) : pantryref01_List.f k s = some ((listL (s.size + 1) s.data.toList).map toB) := by
  unfold pantryref01_List.f
  rw [quoted_eval s (by omega) k (by omega)]
  simp only [Option.bind_some]
  have hz := size_l s
  have := rlist_l0 s (by omega) (quotL false false s.data.toList) (by rw [quotL_len]; omega) s.size 0 0 [] k (by omega) (by omega) (by simp) (by omega)
  rw [show ((0 : Nat) : Int) = 0 from rfl] at this
  rw [this, listL_ref _ _ (by omega)]
  simp

theorem SmallF_take {l : List S46} (h : SmallF l) (i : Nat) : SmallF (l.take i) := ⟨by rw [List.length_take]; have := h.1; omega, fun f hf => h.2 f (List.mem_of_mem_take hf)⟩
theorem rget_l0 (n : ByteArray) (hn : n.size ≤ 100000) (l : List S46) (h : SmallF l) : ∀ (d i k : Nat), i + d = l.length → d + 100001 < k →
    pantryref03_Get.l0 k (l.map conv) n (getB n (l.take i)) ((allV n (l.take i)).length : Int) (i : Int) = some (getB n l, ((allV n l).length : Int)) := by
  intro d
  induction d with
  | zero =>
    intro i k hi hk
    obtain ⟨k, rfl⟩ : ∃ j, k = j + 1 := ⟨k - 1, by omega⟩
    simp only [pantryref03_Get.l0]
    rw [if_neg (by rw [List.length_map]; omega), List.take_of_length_le (by omega)]
  | succ d ih =>
    intro i k hi hk
    obtain ⟨k, rfl⟩ : ∃ j, k = j + 1 := ⟨k - 1, by omega⟩
    have hlt : i < l.length := by omega
    have hll := h.1
    have hx := h.2 _ (List.getElem_mem hlt)
    have hgs := getB_size n _ (SmallF_take h i)
    have hal : (allV n (l.take i)).length ≤ i := by
      unfold allV
      rw [List.length_map]
      refine Nat.le_trans (List.length_filter_le _ _) ?_
      rw [List.length_take]
      omega
    simp only [pantryref03_Get.l0]
    rw [if_pos (by rw [List.length_map]; omega), if_pos (by omega), rd36 _ i (by rw [List.length_map]; omega), List.getElem_map]
    rw [is_eval _ _ n (by simp only [conv]; omega) (by omega) k (by simp only [conv]; omega) (by omega), w64n (x := (i : Int) + 1) (by omega) (by omega), w64n (x := ((allV n (l.take i)).length : Int) + 1) (by omega) (by omega)]
    simp only [Option.bind_some, conv]
    have := ih (i + 1) k (by omega) (by omega)
    rw [show ((i + 1 : Nat) : Int) = (i : Int) + 1 by omega, List.take_succ_eq_append_getElem hlt, allV_app] at this
    cases hs : sameB n l[i].f0 with
    | false =>
      have e : allV n [l[i]] = [] := by
        unfold allV
        rw [List.filter_cons_of_neg (by simp [isOf, hs])]
        rfl
      have e2 : getB n (l.take i ++ [l[i]]) = getB n (l.take i) := by
        unfold getB
        rw [allV_app, e, List.append_nil]
      rw [e, List.append_nil, e2] at this
      rw [if_neg (by simp)]
      exact this
    | true =>
      have e : allV n [l[i]] = [l[i].f1] := by
        unfold allV
        rw [List.filter_cons_of_pos (by simp [isOf, hs])]
        rfl
      rw [e, List.length_append, List.length_singleton, show (((allV n (l.take i)).length + 1 : Nat) : Int) = ((allV n (l.take i)).length : Int) + 1 by omega] at this
      have s2 : (⟨#[44, 32]⟩ : ByteArray).size = 2 := rfl
      have one : joinB [l[i].f1] commaB = l[i].f1.data.toList := by simp [joinB, Lib.join, List.intercalate]
      rw [if_pos rfl]
      by_cases hc : ((allV n (l.take i)).length : Int) > 0
      · rw [if_pos hc, if_pos (by omega)]
        refine (if_pos (by rw [ByteArray.size_append]; omega)).trans ?_
        have e2 : getB n (l.take i ++ [l[i]]) = getB n (l.take i) ++ ⟨#[44, 32]⟩ ++ l[i].f1 := by
          have : (getB n (l.take i ++ [l[i]])).data.toList = (getB n (l.take i) ++ ⟨#[44, 32]⟩ ++ l[i].f1).data.toList := by
            rw [← ByteArray.toList_eq, getB_list, allV_app, e, joinB_app _ _ (by intro h; rw [h] at hc; simp at hc) (by simp), one]
            have r0 := getB_list n (l.take i)
            rw [ByteArray.toList_eq] at r0
            rw [← r0]
            simp
          rw [← of_list (getB n (l.take i ++ [l[i]])), this, of_list]
        rw [e2] at this
        exact this
      · rw [if_neg hc]
        refine (if_pos (by omega)).trans ?_
        have h0 : allV n (l.take i) = [] := List.eq_nil_of_length_eq_zero (by omega)
        have g0 : getB n (l.take i) = ⟨#[]⟩ := by
          unfold getB
          rw [h0]
          rfl
        have e2 : getB n (l.take i ++ [l[i]]) = getB n (l.take i) ++ l[i].f1 := by
          have : (getB n (l.take i ++ [l[i]])).data.toList = (getB n (l.take i) ++ l[i].f1).data.toList := by
            rw [← ByteArray.toList_eq, getB_list, allV_app, e, h0, List.nil_append, one, g0]
            simp
          rw [← of_list (getB n (l.take i ++ [l[i]])), this, of_list]
        rw [e2] at this
        exact this
theorem rget_eval (n : ByteArray) (l : List S46) (hn : n.size ≤ 100000) (h : SmallF l) (k : Nat) (hk : 200100 < k) : pantryref03_Get.f k (l.map conv) n = some (getB n l, ((allV n l).length : Int)) := by
  unfold pantryref03_Get.f
  exact rget_l0 n hn l h l.length 0 k (by omega) (by have := h.1; omega)

/-! ## How a text is marked: its length, a colon, itself -/
theorem u8val (n : Nat) (h : n < 256) : (UInt8.ofNat n).toNat = n := by simp [Nat.mod_eq_of_lt h]
theorem decD_ok (u : Nat) : ∀ c ∈ Lib.decDigits u, 48 ≤ c.toNat ∧ c.toNat ≤ 57 := by
  induction u using Nat.strongRecOn with
  | _ u ih =>
    intro c hc
    rw [Lib.decDigits] at hc
    split at hc
    · obtain rfl := List.mem_singleton.1 hc
      rw [u8val _ (by omega)]
      omega
    · rcases List.mem_append.1 hc with hc | hc
      · exact ih (u / 10) (by omega) c hc
      · obtain rfl := List.mem_singleton.1 hc
        rw [u8val _ (by omega)]
        omega
def valD (l : List UInt8) : Nat := l.foldl (fun a c => 10 * a + (c.toNat - 48)) 0
theorem valD_dec (u : Nat) : valD (Lib.decDigits u) = u := by
  induction u using Nat.strongRecOn with
  | _ u ih =>
    rw [Lib.decDigits]
    split
    · simp only [valD, List.foldl_cons, List.foldl_nil]
      rw [u8val _ (by omega)]
      omega
    · have h := ih (u / 10) (by omega)
      unfold valD at h ⊢
      rw [List.foldl_append, h]
      simp only [List.foldl_cons, List.foldl_nil]
      rw [u8val _ (by omega)]
      omega
/-- What stands ahead of the first colon. -/
theorem colon_split : ∀ (a b s t : List UInt8), (∀ c ∈ a, c ≠ 58) → (∀ c ∈ b, c ≠ 58) → a ++ 58 :: s = b ++ 58 :: t → a = b ∧ s = t := by
  intro a
  induction a with
  | nil =>
    intro b s t _ hb h
    cases b with
    | nil => simpa using h
    | cons d b =>
      simp only [List.nil_append, List.cons_append, List.cons.injEq] at h
      exact absurd h.1.symm (hb d (by simp))
  | cons c a ih =>
    intro b s t ha hb h
    cases b with
    | nil =>
      simp only [List.nil_append, List.cons_append, List.cons.injEq] at h
      exact absurd h.1 (ha c (by simp))
    | cons d b =>
      simp only [List.cons_append, List.cons.injEq] at h
      obtain ⟨e, f⟩ := ih b s t (fun x hx => ha x (by simp [hx])) (fun x hx => hb x (by simp [hx])) h.2
      exact ⟨by rw [h.1, e], f⟩
theorem not_colon (u : Nat) : ∀ c ∈ Lib.decDigits u, c ≠ 58 := by
  rintro c hc rfl
  have := decD_ok u 58 hc
  simp at this
theorem markB_inj {s t r q : List UInt8} (h : markB s ++ r = markB t ++ q) : s = t ∧ r = q := by
  simp only [markB, List.append_assoc, List.cons_append] at h
  obtain ⟨h1, h2⟩ := colon_split _ _ _ _ (not_colon _) (not_colon _) h
  have hl : s.length = t.length := by rw [← valD_dec s.length, ← valD_dec t.length, h1]
  exact List.append_inj h2 hl
def encO : Option (List UInt8) → List UInt8
  | none => [45]
  | some s => 61 :: markB s
theorem encO_inj {s t : Option (List UInt8)} {r q : List UInt8} (h : encO s ++ r = encO t ++ q) : s = t ∧ r = q := by
  cases s with
  | none =>
    cases t with
    | none => exact ⟨rfl, by simpa [encO] using h⟩
    | some t => simp [encO] at h
  | some s =>
    cases t with
    | none => simp [encO] at h
    | some t =>
      simp only [encO, List.cons_append, List.cons.injEq, true_and] at h
      obtain ⟨rfl, e⟩ := markB_inj h
      exact ⟨rfl, e⟩
def encL {α : Type} (f : α → Option (List UInt8)) (l : List α) : List UInt8 := (l.map fun n => encO (f n)).flatten
theorem encL_nil {α : Type} (f : α → Option (List UInt8)) : encL f [] = [] := rfl
theorem encL_cons {α : Type} (f : α → Option (List UInt8)) (n : α) (l : List α) : encL f (n :: l) = encO (f n) ++ encL f l := by simp [encL]
theorem encL_inj {α : Type} (f g : α → Option (List UInt8)) : ∀ (l : List α) (r q : List UInt8), encL f l ++ r = encL g l ++ q → (∀ n ∈ l, f n = g n) ∧ r = q := by
  intro l
  induction l with
  | nil => intro r q h; exact ⟨by simp, by simpa [encL] using h⟩
  | cons n l ih =>
    intro r q h
    rw [encL_cons, encL_cons, List.append_assoc, List.append_assoc] at h
    obtain ⟨e, h2⟩ := encO_inj h
    obtain ⟨i, e2⟩ := ih r q h2
    exact ⟨fun m hm => by rcases List.mem_cons.1 hm with rfl | hm; exact e; exact i m hm, e2⟩
theorem encL_congr {α : Type} {f g : α → Option (List UInt8)} {l : List α} (h : ∀ n ∈ l, f n = g n) : encL f l = encL g l := by
  unfold encL
  rw [List.map_congr_left (fun n hn => by rw [h n hn])]
theorem encL_eq_iff {α : Type} (f g : α → Option (List UInt8)) (l : List α) : encL f l = encL g l ↔ ∀ n ∈ l, f n = g n :=
  ⟨fun h => (encL_inj f g l [] [] (by simpa using h)).1, encL_congr⟩

/-! ## The second key, by what each name has -/
def optV (l : List S46) (n : ByteArray) : Option (List UInt8) := if 0 < (allV n l).length then some (getB n l).data.toList else none
theorem getB_none (l : List S46) (n : ByteArray) (h : (allV n l).length = 0) : (getB n l).data.toList = [] := by
  have : allV n l = [] := List.eq_nil_of_length_eq_zero h
  simp [getB, this, joinB, Lib.join]
theorem getd_eval (n : ByteArray) (l : List S46) (hn : n.size ≤ 140737488351232) (h : SmallF l) (k : Nat) (hk : 100 < k) : field_List_Get.f k l n = some (getB n l, decide (0 < (allV n l).length)) :=
  get_eval n l hn h.2 (by have := h.1; omega) k (by have := h.1; omega)
theorem optV_eq (a b : List S46) (n : ByteArray) : optV a n = optV b n ↔ (decide (0 < (allV n a).length) = decide (0 < (allV n b).length) ∧ (getB n a).data.toList = (getB n b).data.toList) := by
  unfold optV
  by_cases h1 : 0 < (allV n a).length
  · by_cases h2 : 0 < (allV n b).length
    · rw [if_pos h1, if_pos h2, decide_eq_true h1, decide_eq_true h2]
      simp
    · rw [if_pos h1, if_neg h2, decide_eq_true h1, decide_eq_false h2]
      simp
  · by_cases h2 : 0 < (allV n b).length
    · rw [if_neg h1, if_pos h2, decide_eq_false h1, decide_eq_true h2]
      simp
    · rw [if_neg h1, if_neg h2, decide_eq_false h1, decide_eq_false h2, getB_none a n (by omega), getB_none b n (by omega)]
      simp
theorem second_eval (l : List S46) (h : SmallF l) (k : Nat) (hk : 100 < k) : ∀ ns : List ByteArray, (∀ n ∈ ns, n.size ≤ 140737488351232) → second_go k l ns = some (encL (optV l) ns)
  | [], _ => rfl
  | n :: r, hn => by
    rw [second_go, getd_eval n l (hn n (by simp)) h k hk, Option.bind_some, second_eval l h k hk r (fun m hm => hn m (by simp [hm])), Option.bind_some]
    have hz := getB_size n l h
    unfold encL optV
    simp only [List.map_cons, List.flatten_cons]
    by_cases h0 : 0 < (allV n l).length
    · rw [if_pos (decide_eq_true h0), if_pos (by show (getB n l).size ≤ _; omega), if_pos h0]
      rfl
    · rw [if_neg (by rw [decide_eq_false h0]; simp), if_neg h0]
      rfl
theorem key_eval (l : List S46) (h : SmallF l) (k : Nat) (hk : 100 < k) (ns : List ByteArray) (hl : ns.length ≤ 10000) (hn : ∀ n ∈ ns, n.size ≤ 140737488351232) : key_Second.f k l ns = some ⟨(encL (optV l) ns).toArray⟩ := by
  unfold key_Second.f
  rw [if_pos hl, second_eval l h k hk ns hn]
  rfl
theorem arr_list (l : List UInt8) : (⟨l.toArray⟩ : ByteArray).toList = l := by rw [ByteArray.toList_eq]
theorem eqB_iff (a b : List UInt8) (c : Bool) (h : c = true ↔ a = b) : (((⟨a.toArray⟩ : ByteArray).toList == (⟨b.toArray⟩ : ByteArray).toList) == c) = true := by
  rw [arr_list, arr_list]
  cases c with
  | true => simpa using h.1 rfl
  | false =>
    have : ¬ a = b := fun e => by simpa using h.2 e
    simpa using this

/-! ## A place's key -/
def qB (Q has : Bool) (q : List UInt8) : List UInt8 := if Q = true then (if has = true then 63 :: markB q else [33]) else []
def firstB (Q : Bool) (heads : List ByteArray) (h p q : List UInt8) (has : Bool) (o : ByteArray → Option (List UInt8)) : List UInt8 := markB h ++ (markB p ++ (qB Q has q ++ encL o heads))
theorem mark1 (s : ByteArray) (h : s.size ≤ 1000000000) : key_mark.f [s] = some ⟨(markB s.data.toList).toArray⟩ := by
  unfold key_mark.f
  rw [if_pos ⟨by simp, by simpa using h⟩]
  simp [marksB]
theorem mark2 (s t : ByteArray) (h : s.size ≤ 1000000000) (h2 : t.size ≤ 1000000000) : key_mark.f [s, t] = some ⟨(markB s.data.toList ++ markB t.data.toList).toArray⟩ := by
  unfold key_mark.f
  rw [if_pos ⟨by simp, by simpa using ⟨h, h2⟩⟩]
  simp [marksB]
theorem arr_size (l : List UInt8) : (⟨l.toArray⟩ : ByteArray).size = l.length := by show l.toArray.size = _; simp
theorem arr_app (a b : List UInt8) : (⟨a.toArray⟩ : ByteArray) ++ ⟨b.toArray⟩ = ⟨(a ++ b).toArray⟩ := by
  apply ByteArray.ext
  rw [ByteArray.data_append]
  simp
theorem enc_len (l : List S46) (h : SmallF l) : ∀ ns : List ByteArray, (encL (optV l) ns).length ≤ ns.length * 200000
  | [] => by simp [encL]
  | n :: r => by
    have ih := enc_len l h r
    have h1 := getB_size n l h
    have h2 := markB_le (getB n l).data.toList
    have h3 : (getB n l).data.toList.length = (getB n l).size := by simp
    rw [encL_cons, List.length_append]
    have : (encO (optV l n)).length ≤ 200000 := by
      unfold optV
      split
      · simp only [encO, List.length_cons]; omega
      · simp [encO]
    simp only [List.length_cons]
    omega
theorem first_eval (s0 : ByteArray) (s1 s2 s3 : Int) (Q s5 : Bool) (heads : List ByteArray) (p0 p1 p2 : ByteArray) (has : Bool) (l : List S46) (h : SmallF l) (hh : heads.length ≤ 10 ∧ ∀ n ∈ heads, n.size ≤ 100) (h0 : p0.size ≤ 100) (h1 : p1.size ≤ 600) (h2 : p2.size ≤ 600) (k : Nat) (hk : 200 < k) :
    key_First.f k s0 s1 s2 s3 Q s5 heads p0 p1 p2 has l = some ⟨(firstB Q heads p0.data.toList p1.data.toList p2.data.toList has (optV l)).toArray⟩ := by
  obtain ⟨k, rfl⟩ : ∃ j, k = j + 1 := ⟨k - 1, by omega⟩
  have z0 := markB_le p0.data.toList
  have z1 := markB_le p1.data.toList
  have z2 := markB_le p2.data.toList
  have y0 : p0.data.toList.length = p0.size := by simp
  have y1 : p1.data.toList.length = p1.size := by simp
  have y2 : p2.data.toList.length = p2.size := by simp
  have ze := enc_len l h heads
  have ze2 : heads.length * 200000 ≤ 10 * 200000 := Nat.mul_le_mul_right _ hh.1
  have ks : key_Second.f k l heads = some ⟨(encL (optV l) heads).toArray⟩ := key_eval l h k (by omega) heads (by omega) (fun n hn => by have := hh.2 n hn; omega)
  have e63 : (⟨#[63]⟩ : ByteArray) = ⟨([63] : List UInt8).toArray⟩ := rfl
  have e33 : (⟨#[33]⟩ : ByteArray) = ⟨([33] : List UInt8).toArray⟩ := rfl
  have e00 : (⟨#[]⟩ : ByteArray) = ⟨([] : List UInt8).toArray⟩ := rfl
  unfold key_First.f
  cases Q with
  | true =>
    rw [if_pos rfl, key_First.j0]
    cases has with
    | true =>
      rw [if_pos rfl, mark1 p2 (by omega), Option.bind_some, if_pos (by rw [arr_size]; omega), mark2 p0 p1 (by omega) (by omega), Option.bind_some, e63, arr_app, if_pos (by rw [arr_size, arr_size]; simp; omega), ks, Option.bind_some, arr_app, if_pos (by rw [arr_size, arr_size]; simp; omega), arr_app]
      simp [firstB, qB]
    | false =>
      rw [if_neg (by simp), if_pos rfl, mark2 p0 p1 (by omega) (by omega), Option.bind_some, if_pos (by rw [arr_size]; simp; omega), ks, Option.bind_some, e33, arr_app, if_pos (by rw [arr_size, arr_size]; simp; omega), arr_app]
      simp [firstB, qB]
  | false =>
    rw [if_neg (by simp), key_First.j0, if_neg (by simp), if_neg (by simp), mark2 p0 p1 (by omega) (by omega), Option.bind_some, if_pos (by rw [arr_size, e00, arr_size]; simp; omega), ks, Option.bind_some, e00, arr_app, if_pos (by rw [arr_size, arr_size]; simp; omega), arr_app]
    simp [firstB, qB]
theorem qB_inj {Q has has' : Bool} {q q' r r' : List UInt8} (h : qB Q has q ++ r = qB Q has' q' ++ r') : (Q = true → has = has' ∧ (has = true → q = q')) ∧ r = r' := by
  unfold qB at h
  cases Q with
  | false => exact ⟨(fun h => by cases h), by simpa using h⟩
  | true =>
    cases has <;> cases has'
    · exact ⟨(fun _ => ⟨rfl, (fun h => by cases h)⟩), by simpa using h⟩
    · simp at h
    · simp at h
    · simp only [if_true, List.cons_append, List.cons.injEq, true_and] at h
      obtain ⟨e, f⟩ := markB_inj h
      exact ⟨fun _ => ⟨rfl, fun _ => e⟩, f⟩
theorem firstB_iff (Q : Bool) (heads : List ByteArray) (h p q h' p' q' : List UInt8) (has has' : Bool) (o o' : ByteArray → Option (List UInt8)) :
    firstB Q heads h p q has o = firstB Q heads h' p' q' has' o' ↔ (h = h' ∧ p = p' ∧ (Q = true → has = has' ∧ (has = true → q = q'))) ∧ ∀ n ∈ heads, o n = o' n := by
  constructor
  · intro e
    unfold firstB at e
    obtain ⟨e1, e⟩ := markB_inj e
    obtain ⟨e2, e⟩ := markB_inj e
    obtain ⟨e3, e⟩ := qB_inj e
    exact ⟨⟨e1, e2, e3⟩, (encL_eq_iff _ _ _).1 e⟩
  · rintro ⟨⟨rfl, rfl, e3⟩, e4⟩
    unfold firstB
    rw [encL_congr e4]
    congr 3
    unfold qB
    cases Q with
    | false => rfl
    | true =>
      obtain ⟨rfl, e5⟩ := e3 rfl
      cases has with
      | false => rfl
      | true => rw [e5 rfl]

/-! ## The names that vary: each once, rising -/
theorem ofLists_to (l : List (List UInt8)) : (ofLists l).map (·.data.toList) = l := by
  unfold ofLists
  rw [List.map_map]
  exact List.map_id'' (fun _ => rfl) l
def namesL (ys : List (List UInt8)) : List (List UInt8) := Lib.compact (ys.mergeSort (fun x y => decide (x ≤ y)))
theorem namesB_eq (xs : List ByteArray) : namesB xs = ofLists (namesL (xs.map (·.data.toList))) := by
  unfold namesB compB sortB sortL namesL
  rw [ofLists_to]
theorem lt_of_le_ne (x y : List UInt8) (h : x ≤ y) (hne : x ≠ y) : x < y := by
  rcases Classical.em (x < y) with h1 | h1
  · exact h1
  · exact absurd (List.le_antisymm h (List.not_lt.1 h1)) hne
theorem comp_upto (zs : List (List UInt8)) (hs : zs.Pairwise (· ≤ ·)) : ∀ m, m ≤ zs.length → (∀ x, x ∈ Lib.compactUpTo zs.toArray m ↔ x ∈ zs.take m) ∧ (Lib.compactUpTo zs.toArray m).Pairwise (· < ·) := by
  intro m
  induction m with
  | zero => intro _; simp [Lib.compactUpTo]
  | succ m ih =>
    intro hm
    obtain ⟨h1, h2⟩ := ih (by omega)
    have hlt : m < zs.length := by omega
    have hd : zs.toArray[m]! = zs[m] := by simp [hlt]
    rw [Lib.compactUpTo_succ, List.take_succ_eq_append_getElem hlt, hd]
    by_cases hk : Lib.keeps zs.toArray m = true
    · rw [if_pos hk]
      refine ⟨fun x => by rw [List.mem_append, List.mem_append, h1], ?_⟩
      rw [List.pairwise_append]
      refine ⟨h2, by simp, fun x hx y hy => ?_⟩
      obtain rfl := List.mem_singleton.1 hy
      have hx' := (h1 x).1 hx
      obtain ⟨j, hj, rfl⟩ := List.getElem_of_mem hx'
      rw [List.length_take] at hj
      rw [List.getElem_take]
      have hm0 : m ≠ 0 := by omega
      have hne : zs[m] ≠ zs[m - 1] := by
        simp only [Lib.keeps, decide_eq_true_eq] at hk
        rcases hk with hk | hk
        · exact absurd hk hm0
        · rw [hd] at hk
          have : zs.toArray[m - 1]! = zs[m - 1] := by
            have : m - 1 < zs.length := by omega
            simp [this]
          rw [this] at hk
          exact hk
      have hp := List.pairwise_iff_getElem.1 hs
      have l1 : zs[m - 1] < zs[m] := lt_of_le_ne _ _ (hp (m - 1) m (by omega) hlt (by omega)) (fun e => hne e.symm)
      by_cases e : j = m - 1
      · subst e; exact l1
      · exact List.lt_of_le_of_lt (hp j (m - 1) (by omega) (by omega) (by omega)) l1
    · rw [if_neg hk, List.append_nil]
      refine ⟨fun x => ?_, h2⟩
      rw [h1]
      constructor
      · intro h; exact List.mem_append_left _ h
      · intro h
        rcases List.mem_append.1 h with h | h
        · exact h
        · obtain rfl := List.mem_singleton.1 h
          simp only [Lib.keeps, decide_eq_true_eq, not_or, Classical.not_not] at hk
          obtain ⟨hm0, hk⟩ := hk
          rw [hd] at hk
          have : zs.toArray[m - 1]! = zs[m - 1] := by
            have : m - 1 < zs.length := by omega
            simp [this]
          rw [hk, this]
          exact List.mem_take_iff_getElem.2 ⟨m - 1, by omega, rfl⟩
theorem sort_le (ys : List (List UInt8)) : (ys.mergeSort (fun x y => decide (x ≤ y))).Pairwise (· ≤ ·) := by
  have := List.pairwise_mergeSort (le := fun x y : List UInt8 => decide (x ≤ y)) (fun a b c h1 h2 => by simp only [decide_eq_true_eq] at *; exact List.le_trans h1 h2) (fun a b => by simp only [Bool.or_eq_true, decide_eq_true_eq]; exact List.le_total a b) ys
  exact this.imp (fun h => of_decide_eq_true h)
theorem namesL_mem (ys : List (List UInt8)) (x : List UInt8) : x ∈ namesL ys ↔ x ∈ ys := by
  have h := (comp_upto (ys.mergeSort (fun x y => decide (x ≤ y))) (sort_le ys) _ (Nat.le_refl _)).1 x
  unfold namesL Lib.compact
  rw [h, List.take_length, List.mem_mergeSort]
theorem namesL_inc (ys : List (List UInt8)) : (namesL ys).Pairwise (· < ·) := (comp_upto (ys.mergeSort (fun x y => decide (x ≤ y))) (sort_le ys) _ (Nat.le_refl _)).2
theorem inc_unique : ∀ (a b : List (List UInt8)), a.Pairwise (· < ·) → b.Pairwise (· < ·) → (∀ x, x ∈ a ↔ x ∈ b) → a = b
  | [], [], _, _, _ => rfl
  | [], y :: b, _, _, h => absurd ((h y).2 (by simp)) (by simp)
  | x :: a, [], _, _, h => absurd ((h x).1 (by simp)) (by simp)
  | x :: a, y :: b, ha, hb, h => by
    obtain ⟨ha1, ha2⟩ := List.pairwise_cons.1 ha
    obtain ⟨hb1, hb2⟩ := List.pairwise_cons.1 hb
    have e : x = y := by
      rcases List.mem_cons.1 ((h x).1 (by simp)) with e | hx
      · exact e
      · rcases List.mem_cons.1 ((h y).2 (by simp)) with e | hy
        · exact e.symm
        · exact absurd (hb1 x hx) (List.lt_asymm (ha1 y hy))
    subst e
    rw [inc_unique a b ha2 hb2 (fun z => ?_)]
    constructor
    · intro hz
      rcases List.mem_cons.1 ((h z).1 (by simp [hz])) with rfl | hz2
      · exact absurd (ha1 _ hz) (List.lt_irrefl _)
      · exact hz2
    · intro hz
      rcases List.mem_cons.1 ((h z).2 (by simp [hz])) with rfl | hz2
      · exact absurd (hb1 _ hz) (List.lt_irrefl _)
      · exact hz2
theorem namesL_congr (ys zs : List (List UInt8)) (h : ∀ x, x ∈ ys ↔ x ∈ zs) : namesL ys = namesL zs :=
  inc_unique _ _ (namesL_inc _) (namesL_inc _) (fun x => by rw [namesL_mem, namesL_mem, h])
def starB (x : ByteArray) : Bool := decide (x.data.toList = [42])
def nmsOf (e : List ByteArray) : List ByteArray := (e.filter fun x => !starB x).map lowB
def varyU : ByteArray := ⟨#[86, 97, 114, 121]⟩
theorem nmsOf_cons (x : ByteArray) (r : List ByteArray) : nmsOf (x :: r) = if starB x = true then nmsOf r else lowB x :: nmsOf r := by
  unfold nmsOf
  cases h : starB x <;> simp [h]
theorem names_l0 (e : List ByteArray) (he : ∀ x ∈ e, x.size ≤ 140737488351232) (hl : e.length ≤ 1000000) : ∀ (d i k : Nat) (acc : List ByteArray) (star : Bool), i + d = e.length → acc.length ≤ i → d < k →
    key_Names.l0 k acc star e (e.length : Int) (i : Int) = some (namesB (acc ++ nmsOf (e.drop i)), star || (e.drop i).any starB) := by
  intro d
  induction d with
  | zero =>
    intro i k acc star hi ha hk
    obtain ⟨k, rfl⟩ : ∃ j, k = j + 1 := ⟨k - 1, by omega⟩
    simp only [key_Names.l0]
    rw [if_neg (by omega), if_pos (by omega), List.drop_of_length_le (by omega)]
    simp [nmsOf]
  | succ d ih =>
    intro i k acc star hi ha hk
    obtain ⟨k, rfl⟩ : ∃ j, k = j + 1 := ⟨k - 1, by omega⟩
    have hlt : i < e.length := by omega
    simp only [key_Names.l0]
    rw [if_pos (by omega), if_pos (by omega), if_pos (by omega), rdB e i hlt, w64n (by omega) (by omega), List.drop_eq_getElem_cons hlt, ByteArray.toList_eq]
    by_cases hs : e[i].data.toList = [42]
    · have hb : starB e[i] = true := decide_eq_true hs
      rw [if_pos hs]
      refine (ih (i + 1) k acc true (by omega) (by omega) (by omega)).trans ?_
      rw [nmsOf_cons, if_pos hb, List.any_cons, hb, Bool.true_or, Bool.or_true]
    · have hb : starB e[i] = false := decide_eq_false hs
      rw [if_neg hs]
      have hlo : sign_Lower.f e[i] = some (lowB e[i]) := by
        unfold sign_Lower.f
        rw [if_pos (he _ (List.getElem_mem hlt))]
      rw [hlo, Option.bind_some, if_pos (by omega)]
      refine (ih (i + 1) k (acc ++ [lowB e[i]]) star (by omega) (by simp; omega) (by omega)).trans ?_
      rw [nmsOf_cons, if_neg (by rw [hb]; simp), List.any_cons, hb, Bool.false_or, List.append_assoc]
      rfl
theorem names_eval (l : List S46) (h : SmallF l) (k : Nat) (hk : 3000200 < k) : key_Names.f k l = some (namesB (nmsOf (elemsB varyU l)), (elemsB varyU l).any starB) := by
  unfold key_Names.f
  have hok := elems_ok varyU l h
  rw [show (⟨#[86, 97, 114, 121]⟩ : ByteArray) = varyU from rfl, elems_eval varyU l (by decide) h k (by omega), Option.bind_some]
  have := names_l0 (elemsB varyU l) (fun x hx => by have := hok.2 x hx; omega) (by omega) (elemsB varyU l).length 0 k [] false (by omega) (by simp) (by omega)
  simpa using this
theorem names_set (e e' : List ByteArray) (h : ∀ x, x ∈ e ↔ x ∈ e') : namesB (nmsOf e) = namesB (nmsOf e') ∧ e.any starB = e'.any starB := by
  constructor
  · rw [namesB_eq, namesB_eq, namesL_congr _ _ (fun x => ?_)]
    simp only [nmsOf, List.mem_map, List.mem_filter, h]
  · rw [Bool.eq_iff_iff, List.any_eq_true, List.any_eq_true]
    simp only [h]

/-! ## The document's example -/
def exV : ByteArray := ⟨#[66, 44, 32, 97, 44, 98, 32, 44, 32, 42]⟩
theorem ex_elems : elemsB varyU [⟨⟨#[118, 97, 114, 121]⟩, exV⟩] = [⟨#[66]⟩, ⟨#[97]⟩, ⟨#[98]⟩, ⟨#[42]⟩] := by decide +kernel
theorem ex_names : namesB (nmsOf [⟨#[66]⟩, ⟨#[97]⟩, ⟨#[98]⟩, ⟨#[42]⟩]) = [⟨#[97]⟩, ⟨#[98]⟩] := by
  have e : nmsOf [⟨#[66]⟩, ⟨#[97]⟩, ⟨#[98]⟩, ⟨#[42]⟩] = [⟨#[98]⟩, ⟨#[97]⟩, ⟨#[98]⟩] := by decide +kernel
  rw [e, namesB_eq]
  have e2 : namesL ([⟨#[98]⟩, ⟨#[97]⟩, ⟨#[98]⟩].map fun x : ByteArray => x.data.toList) = [[97], [98]] := by
    refine inc_unique _ _ (namesL_inc _) (by decide) (fun x => ?_)
    rw [namesL_mem]
    simp only [List.map_cons, List.map_nil, List.mem_cons, List.not_mem_nil, or_false]
    constructor
    · rintro (h | h | h)
      · exact .inr h
      · exact .inl h
      · exact .inr h
    · rintro (h | h)
      · exact .inr (.inl h)
      · exact .inl h
  rw [e2]
  rfl
theorem dig3 : Lib.decDigits 3 = [51] := by rw [Lib.decDigits]; rfl
theorem dig2 : Lib.decDigits 2 = [50] := by rw [Lib.decDigits]; rfl
theorem anchor_ok (k : Nat) (hk : 3000300 ≤ k) : pantrylaw11_anchor.f k = some true := by
  have h1 := first_eval ⟨#[]⟩ 0 0 0 false false [⟨#[97, 99, 99, 101, 112, 116]⟩] ⟨#[97, 46, 98]⟩ ⟨#[47, 120]⟩ ⟨#[113]⟩ true [] ⟨by simp, by simp⟩ ⟨by simp, fun n hn => by obtain rfl := List.mem_singleton.1 hn; decide⟩ (by decide) (by decide) (by decide) k (by omega)
  have h2 := names_eval [⟨⟨#[118, 97, 114, 121]⟩, exV⟩] ⟨by simp, fun f hf => by obtain rfl := List.mem_singleton.1 hf; exact ⟨by decide, by decide⟩⟩ k (by omega)
  have hb : firstB false [⟨#[97, 99, 99, 101, 112, 116]⟩] (⟨#[97, 46, 98]⟩ : ByteArray).data.toList (⟨#[47, 120]⟩ : ByteArray).data.toList (⟨#[113]⟩ : ByteArray).data.toList true (optV []) = [51, 58, 97, 46, 98, 50, 58, 47, 120, 45] := by
    simp [firstB, qB, markB, encL, optV, allV, encO, dig3, dig2]
  rw [hb] at h1
  rw [ex_elems, ex_names] at h2
  unfold pantrylaw11_anchor.f
  rw [h1, Option.bind_some, show (⟨#[66, 44, 32, 97, 44, 98, 32, 44, 32, 42]⟩ : ByteArray) = exV from rfl, h2, Option.bind_some, arr_list, if_pos rfl]
  decide +kernel

/-! ## Sites that can be gone through with -/
theorem rdS (l : List S24) (i : Nat) (h : i < l.length) : rd_T24 l (i : Int) = l[i] := by simp [rd_T24, h]
def SiteP (s : S24) : Prop := s.f0.size ≤ 100 ∧ s.f6.length ≤ 10 ∧ ∀ h ∈ s.f6, h.size ≤ 100
theorem heads_l1 (x8 : List S24) (x9 x10 : Int) (hs : List ByteArray) (x20 : List S24) (hh : hs.length ≤ 10) : ∀ (d i k : Nat), i + d = hs.length → d < k →
    (pantrymade_SmallSites.l1 k x8 x9 x10 hs (hs.length : Int) (i : Int) x20 = some false) ∨ (pantrymade_SmallSites.l1 k x8 x9 x10 hs (hs.length : Int) (i : Int) x20 = pantrymade_SmallSites.l0 (k - d - 1) x8 x9 (wrap64 (x10 + 1)) x20 ∧ ∀ h ∈ hs.drop i, h.size ≤ 100) := by
  intro d
  induction d with
  | zero =>
    intro i k hi hk
    obtain ⟨k, rfl⟩ : ∃ j, k = j + 1 := ⟨k - 1, by omega⟩
    simp only [pantrymade_SmallSites.l1]
    rw [if_neg (by omega), List.drop_of_length_le (by omega)]
    exact .inr ⟨by simp, fun h hm => by cases hm⟩
  | succ d ih =>
    intro i k hi hk
    obtain ⟨k, rfl⟩ : ∃ j, k = j + 1 := ⟨k - 1, by omega⟩
    have hlt : i < hs.length := by omega
    simp only [pantrymade_SmallSites.l1]
    rw [if_pos (by omega), if_pos (by omega), if_pos (by omega), rdB hs i hlt]
    by_cases h1 : (hs[i].size : Int) > 100
    · rw [if_pos h1]; exact .inl rfl
    · rw [if_neg h1, w64n (by omega) (by omega)]
      rcases ih (i + 1) k (by omega) (by omega) with h | ⟨h, h2⟩
      · exact .inl h
      · refine .inr ⟨?_, fun y hy => ?_⟩
        · refine (show _ = _ from h).trans ?_
          congr 1
          omega
        · rw [List.drop_eq_getElem_cons hlt] at hy
          rcases List.mem_cons.1 hy with rfl | hy
          · omega
          · exact h2 y hy
theorem sites_l0 (l : List S24) (hl : l.length ≤ 9223372036854775807) : ∀ (d i k : Nat), i + d = l.length → 20 * d < k →
    ∃ b, pantrymade_SmallSites.l0 k l (l.length : Int) (i : Int) l = some b ∧ (b = true → l.length ≤ 12 ∧ ∀ s ∈ l.drop i, SiteP s) := by
  intro d
  induction d with
  | zero =>
    intro i k hi hk
    obtain ⟨k, rfl⟩ : ∃ j, k = j + 1 := ⟨k - 1, by omega⟩
    simp only [pantrymade_SmallSites.l0]
    rw [if_neg (by omega), List.drop_of_length_le (by omega)]
    exact ⟨_, rfl, fun h => ⟨by have := of_decide_eq_true h; omega, fun s hs => by cases hs⟩⟩
  | succ d ih =>
    intro i k hi hk
    obtain ⟨k, rfl⟩ : ∃ j, k = j + 2 := ⟨k - 2, by omega⟩
    have hlt : i < l.length := by omega
    rw [pantrymade_SmallSites.l0]
    rw [if_pos (by omega), if_pos (by omega), if_pos (by omega), rdS l i hlt]
    by_cases h1 : (l[i].f0.size : Int) > 100
    · rw [if_pos h1, pantrymade_SmallSites.j1, if_pos rfl]; exact ⟨false, rfl, fun h => by cases h⟩
    · rw [if_neg h1, pantrymade_SmallSites.j1]
      by_cases h2 : (l[i].f6.length : Int) > 10
      · rw [if_pos (decide_eq_true h2)]; exact ⟨false, rfl, fun h => by cases h⟩
      · rw [if_neg (by rw [decide_eq_false h2]; simp)]
        rcases heads_l1 l (l.length : Int) (i : Int) l[i].f6 l (by omega) l[i].f6.length 0 k (by omega) (by omega) with h | ⟨h, h3⟩
        · exact ⟨false, h, fun h => by cases h⟩
        · rw [w64n (by omega) (by omega)] at h
          obtain ⟨b, hb, hs⟩ := ih (i + 1) (k - l[i].f6.length - 1) (by omega) (by omega)
          refine ⟨b, (show _ = _ from h).trans hb, fun hb => ?_⟩
          obtain ⟨h4, h5⟩ := hs hb
          refine ⟨h4, fun s hs => ?_⟩
          rw [List.drop_eq_getElem_cons hlt] at hs
          rcases List.mem_cons.1 hs with rfl | hs
          · exact ⟨by omega, by omega, by simpa using h3⟩
          · exact h5 s hs
theorem sites_eval (l : List S24) (hl : l.length ≤ 9223372036854775807) (k : Nat) (hk : 20 * l.length < k) : ∃ b, pantrymade_SmallSites.f k l = some b ∧ (b = true → l.length ≤ 12 ∧ ∀ s ∈ l, SiteP s) := by
  obtain ⟨b, hb, hs⟩ := sites_l0 l hl l.length 0 k (by omega) hk
  exact ⟨b, hb, fun h => by simpa using hs h⟩

/-! ## A site and a place that can be gone through with -/
theorem fit_eval (s0 : ByteArray) (s1 s2 s3 : Int) (s4 s5 : Bool) (s6 : List ByteArray) (p0 p1 p2 : ByteArray) (p3 : Bool) (k : Nat) (hk : 30 < k) :
    ∃ b, pantrylaw11_fit.f k s0 s1 s2 s3 s4 s5 s6 p0 p1 p2 p3 = some b ∧ (b = true → (s6.length ≤ 10 ∧ ∀ h ∈ s6, h.size ≤ 100) ∧ p0.size ≤ 100 ∧ p1.size ≤ 600 ∧ p2.size ≤ 600) := by
  obtain ⟨b, hb, hs⟩ := sites_eval [⟨s0, s1, s2, s3, s4, s5, s6⟩] (by simp) k (by simp; omega)
  unfold pantrylaw11_fit.f
  rw [hb]
  simp only [Option.bind_some]
  cases b with
  | false => rw [if_neg (by simp)]; exact ⟨false, rfl, fun h => by cases h⟩
  | true =>
    have h := (hs rfl).2 _ (List.mem_singleton.2 rfl)
    rw [if_pos rfl]
    by_cases h1 : (p0.size : Int) ≤ 100
    · rw [if_pos h1]
      by_cases h2 : (p1.size : Int) ≤ 600
      · rw [if_pos h2]
        exact ⟨_, rfl, fun h3 => ⟨⟨h.2.1, h.2.2⟩, by omega, by omega, by have := of_decide_eq_true h3; omega⟩⟩
      · rw [if_neg h2]; exact ⟨false, rfl, fun h => by cases h⟩
    · rw [if_neg h1]; exact ⟨false, rfl, fun h => by cases h⟩

/-! ## The document's answers for keys -/
theorem relems2_eval (n : ByteArray) (l : List S46) (hn : n.size ≤ 1000) (h : SmallF l) (k : Nat) (hk : 4000100 < k) : pantryref03_Elements.f k (l.map conv) n = some (elemsB n l) := by
  unfold pantryref03_Elements.f
  rw [rget_eval n l (by omega) h k (by omega)]
  simp only [Option.bind_some]
  have := getB_size n l h
  rw [rlist_eval _ (by omega) k hk]
  rfl
theorem dig_small (n : Nat) (h : n < 10) : strOfNums [(wrap64 (48 + (n : Int))) % 256] = ⟨([UInt8.ofNat (48 + n)] : List UInt8).toArray⟩ := by
  unfold strOfNums
  rw [w64n (by omega) (by omega), show (48 + (n : Int)) % 256 = ((48 + n : Nat) : Int) by omega]
  rfl
theorem digits_eval : ∀ (n k : Nat), n ≤ 1000000000 → n < k → pantryref11_digits.f k (n : Int) = some ⟨(Lib.decDigits n).toArray⟩ := by
  intro n
  induction n using Nat.strongRecOn with
  | _ n ih =>
    intro k hn hk
    obtain ⟨k, rfl⟩ : ∃ j, k = j + 1 := ⟨k - 1, by omega⟩
    rw [pantryref11_digits.f, Lib.decDigits]
    by_cases h : n < 10
    · rw [if_pos (by omega), dif_pos h, dig_small n h]
    · have e1 : Int.tdiv (n : Int) 10 = ((n / 10 : Nat) : Int) := by rw [Int.tdiv_eq_ediv_of_nonneg (by omega)]; rfl
      have e2 : Int.tmod (n : Int) 10 = ((n % 10 : Nat) : Int) := by rw [Int.tmod_eq_emod_of_nonneg (by omega)]; rfl
      rw [if_neg (by omega), dif_neg h, e1, e2, w64n (by omega) (by omega), ih (n / 10) (by omega) k (by omega) (by omega), Option.bind_some, Option.bind_some, dig_small (n % 10) (Nat.mod_lt _ (by omega))]
      have hl := decDigits_le (n / 10)
      rw [if_pos (by rw [arr_size, arr_size]; simp only [List.length_cons, List.length_nil]; omega), arr_app]
theorem mark_eval (s : ByteArray) (hs : s.size ≤ 1000000) (k : Nat) (hk : s.size < k) : pantryref11_Mark.f k s = some ⟨(markB s.data.toList).toArray⟩ := by
  unfold pantryref11_Mark.f
  have hl := decDigits_le s.size
  have hz : s.data.toList.length = s.size := by simp
  rw [digits_eval s.size k (by omega) hk, Option.bind_some, if_pos (by rw [arr_size]; omega)]
  have e : (⟨#[58]⟩ : ByteArray) = ⟨([58] : List UInt8).toArray⟩ := rfl
  rw [e, arr_app, if_pos (by rw [arr_size, List.length_append]; simp only [List.length_cons, List.length_nil]; omega)]
  have e2 : s = ⟨(s.data.toList).toArray⟩ := (of_list s).symm
  have e3 : (⟨(Lib.decDigits s.size ++ [58]).toArray⟩ : ByteArray) ++ s = ⟨(Lib.decDigits s.size ++ [58]).toArray⟩ ++ ⟨(s.data.toList).toArray⟩ := congrArg _ e2
  rw [e3, arr_app]
  simp [markB]
theorem rsecond_l0 (l : List S46) (h : SmallF l) (ns : List ByteArray) (hl : ns.length ≤ 1000000) (hn : ∀ n ∈ ns, n.size ≤ 100000) : ∀ (d i k : Nat) (acc : List UInt8), i + d = ns.length → d + 300000 < k → acc.length ≤ i * 200000 →
    pantryref11_Second.l0 k (l.map conv) ns ⟨acc.toArray⟩ (i : Int) = some ⟨(acc ++ encL (optV l) (ns.drop i)).toArray⟩ := by
  intro d
  induction d with
  | zero =>
    intro i k acc hi hk ha
    obtain ⟨k, rfl⟩ : ∃ j, k = j + 1 := ⟨k - 1, by omega⟩
    rw [pantryref11_Second.l0, if_neg (by omega), List.drop_of_length_le (by omega), encL_nil, List.append_nil]
  | succ d ih =>
    intro i k acc hi hk ha
    obtain ⟨k, rfl⟩ : ∃ j, k = j + 1 := ⟨k - 1, by omega⟩
    have hlt : i < ns.length := by omega
    have hz := getB_size ns[i] l h
    have hzl : (getB ns[i] l).data.toList.length = (getB ns[i] l).size := by simp
    have hml := markB_le (getB ns[i] l).data.toList
    rw [pantryref11_Second.l0, if_pos (by omega), if_pos (by omega), rdB ns i hlt, rget_eval ns[i] l (hn _ (List.getElem_mem hlt)) h k (by omega), Option.bind_some, w64n (by omega) (by omega), List.drop_eq_getElem_cons hlt, encL_cons]
    dsimp only
    have e61 : (⟨#[61]⟩ : ByteArray) = ⟨([61] : List UInt8).toArray⟩ := rfl
    have e45 : (⟨#[45]⟩ : ByteArray) = ⟨([45] : List UInt8).toArray⟩ := rfl
    by_cases h0 : 0 < (allV ns[i] l).length
    · rw [if_pos (by omega), mark_eval _ (by omega) k (by omega), Option.bind_some, if_pos (by rw [arr_size]; omega), e61, arr_app, if_pos (by rw [arr_size, arr_size]; simp only [List.length_append, List.length_cons, List.length_nil]; omega), arr_app]
      refine (ih (i + 1) k _ (by omega) (by omega) (by simp only [List.length_append, List.length_cons, List.length_nil]; omega)).trans ?_
      have : encO (optV l ns[i]) = 61 :: markB (getB ns[i] l).data.toList := by unfold optV; rw [if_pos h0]; rfl
      rw [this]
      simp
    · rw [if_neg (by omega), if_pos (by rw [arr_size]; omega), e45, arr_app]
      refine (ih (i + 1) k _ (by omega) (by omega) (by simp only [List.length_append, List.length_cons, List.length_nil]; omega)).trans ?_
      have : encO (optV l ns[i]) = [45] := by unfold optV; rw [if_neg h0]; rfl
      rw [this]
      simp
theorem rsecond_eval (l : List S46) (h : SmallF l) (ns : List ByteArray) (hl : ns.length ≤ 1000000) (hn : ∀ n ∈ ns, n.size ≤ 100000) (k : Nat) (hk : ns.length + 300000 < k) : pantryref11_Second.f k (l.map conv) ns = some ⟨(encL (optV l) ns).toArray⟩ := by
  unfold pantryref11_Second.f
  have := rsecond_l0 l h ns hl hn ns.length 0 k [] (by omega) (by omega) (by simp)
  simpa using this
theorem rfirst_eval (s0 : ByteArray) (s1 s2 s3 : Int) (Q s5 : Bool) (heads : List ByteArray) (p0 p1 p2 : ByteArray) (has : Bool) (l : List S46) (h : SmallF l) (hh : heads.length ≤ 10 ∧ ∀ n ∈ heads, n.size ≤ 100) (h0 : p0.size ≤ 100) (h1 : p1.size ≤ 600) (h2 : p2.size ≤ 600) (k : Nat) (hk : 400000 < k) :
    pantryref11_First.f k s0 s1 s2 s3 Q s5 heads p0 p1 p2 has (l.map conv) = some ⟨(firstB Q heads p0.data.toList p1.data.toList p2.data.toList has (optV l)).toArray⟩ := by
  obtain ⟨k, rfl⟩ : ∃ j, k = j + 1 := ⟨k - 1, by omega⟩
  have z0 := markB_le p0.data.toList
  have z1 := markB_le p1.data.toList
  have z2 := markB_le p2.data.toList
  have y0 : p0.data.toList.length = p0.size := by simp
  have y1 : p1.data.toList.length = p1.size := by simp
  have y2 : p2.data.toList.length = p2.size := by simp
  have ze := enc_len l h heads
  have ze2 : heads.length * 200000 ≤ 10 * 200000 := Nat.mul_le_mul_right _ hh.1
  have ks : pantryref11_Second.f k (l.map conv) heads = some ⟨(encL (optV l) heads).toArray⟩ := rsecond_eval l h heads (by omega) (fun n hn => by have := hh.2 n hn; omega) k (by omega)
  have e63 : (⟨#[63]⟩ : ByteArray) = ⟨([63] : List UInt8).toArray⟩ := rfl
  have e33 : (⟨#[33]⟩ : ByteArray) = ⟨([33] : List UInt8).toArray⟩ := rfl
  unfold pantryref11_First.f
  rw [mark_eval p0 (by omega) _ (by omega), Option.bind_some, mark_eval p1 (by omega) _ (by omega), Option.bind_some, if_pos (by rw [arr_size, arr_size]; omega), arr_app]
  cases Q with
  | true =>
    rw [if_pos rfl, pantryref11_First.j0]
    cases has with
    | true =>
      rw [if_pos rfl, mark_eval p2 (by omega) _ (by omega), Option.bind_some, if_pos (by rw [arr_size]; omega), e63, arr_app, if_pos (by rw [arr_size, arr_size]; simp only [List.length_append, List.length_cons, List.length_nil]; omega), if_pos rfl, if_pos rfl, ks, Option.bind_some, arr_app, if_pos (by rw [arr_size, arr_size]; simp only [List.length_append, List.length_cons, List.length_nil]; omega), arr_app]
      simp [firstB, qB]
    | false =>
      rw [if_neg (by simp), if_pos rfl, if_neg (by simp), if_pos (by rw [arr_size]; simp only [List.length_append]; omega), ks, Option.bind_some, e33, arr_app, if_pos (by rw [arr_size, arr_size]; simp only [List.length_append, List.length_cons, List.length_nil]; omega), arr_app]
      simp [firstB, qB]
  | false =>
    rw [if_neg (by simp), pantryref11_First.j0, if_neg (by simp), if_neg (by simp), ks, Option.bind_some, if_pos (by rw [arr_size, arr_size]; simp only [List.length_append]; omega), arr_app]
    simp [firstB, qB]
/-! ### put: a name among others that rise -/
def putR : List ByteArray → ByteArray → List ByteArray
  | [], s => [s]
  | x :: r, s => if x.data.toList < s.data.toList then x :: putR r s else if x.data.toList = s.data.toList then x :: r else s :: x :: r
theorem put_done (l : List ByteArray) (s : ByteArray) (hl : l.length ≤ 1000000) : ∀ (d i k : Nat) (acc : List ByteArray), i + d = l.length → acc.length ≤ i + 1 → 2 * d < k → pantryref11_put.l0 k l s acc true (i : Int) = some (acc ++ l.drop i) := by
  intro d
  induction d with
  | zero =>
    intro i k acc hi ha hk
    obtain ⟨k, rfl⟩ : ∃ j, k = j + 1 := ⟨k - 1, by omega⟩
    rw [pantryref11_put.l0, if_neg (by omega), if_pos rfl, List.drop_of_length_le (by omega), List.append_nil]
  | succ d ih =>
    intro i k acc hi ha hk
    obtain ⟨k, rfl⟩ : ∃ j, k = j + 2 := ⟨k - 2, by omega⟩
    have hlt : i < l.length := by omega
    rw [pantryref11_put.l0, if_pos (by omega), if_pos rfl, pantryref11_put.j1, if_neg (by simp), if_pos (by omega), if_pos (by omega), if_pos (by omega), rdB l i hlt, w64n (by omega) (by omega), List.drop_eq_getElem_cons hlt]
    refine (ih (i + 1) k _ (by omega) (by simp; omega) (by omega)).trans ?_
    rw [List.append_assoc]
    rfl
theorem put_l0 (l : List ByteArray) (s : ByteArray) (hl : l.length ≤ 1000000) : ∀ (d i k : Nat) (acc : List ByteArray), i + d = l.length → acc.length ≤ i → 2 * d < k → pantryref11_put.l0 k l s acc false (i : Int) = some (acc ++ putR (l.drop i) s) := by
  intro d
  induction d with
  | zero =>
    intro i k acc hi ha hk
    obtain ⟨k, rfl⟩ : ∃ j, k = j + 1 := ⟨k - 1, by omega⟩
    rw [pantryref11_put.l0, if_neg (by omega), if_neg (by simp), if_pos (by omega), List.drop_of_length_le (by omega), putR]
  | succ d ih =>
    intro i k acc hi ha hk
    obtain ⟨k, rfl⟩ : ∃ j, k = j + 2 := ⟨k - 2, by omega⟩
    have hlt : i < l.length := by omega
    rw [pantryref11_put.l0, if_pos (by omega), if_neg (by simp), if_pos (by omega), rdB l i hlt, ByteArray.toList_eq, ByteArray.toList_eq, bl_lt, List.drop_eq_getElem_cons hlt, putR]
    by_cases h : l[i].data.toList < s.data.toList
    · rw [decide_eq_true h, if_pos h, pantryref11_put.j1, if_neg (by simp), if_pos (by omega), if_pos (by omega), if_pos (by omega), rdB l i hlt, w64n (by omega) (by omega)]
      refine (ih (i + 1) k _ (by omega) (by simp; omega) (by omega)).trans ?_
      rw [List.append_assoc]
      rfl
    · rw [decide_eq_false h, if_neg h, pantryref11_put.j1, if_pos (by simp), if_pos (by omega), if_pos (by omega), rdB l i hlt, ByteArray.toList_eq, ByteArray.toList_eq, w64n (by omega) (by omega)]
      by_cases h2 : l[i].data.toList = s.data.toList
      · rw [if_pos h2, if_pos h2, if_pos (by omega)]
        refine (put_done l s hl d (i + 1) k _ (by omega) (by simp; omega) (by omega)).trans ?_
        rw [List.append_assoc]
        rfl
      · rw [if_neg h2, if_neg h2, if_pos (by omega), Option.bind_some, if_pos (by rw [List.length_append]; simp only [List.length_cons, List.length_nil]; omega)]
        refine (put_done l s hl d (i + 1) k _ (by omega) (by simp; omega) (by omega)).trans ?_
        rw [List.append_assoc, List.append_assoc]
        rfl
theorem put_eval (l : List ByteArray) (s : ByteArray) (hl : l.length ≤ 1000000) (k : Nat) (hk : 2 * l.length < k) : pantryref11_put.f k l s = some (putR l s) := by
  unfold pantryref11_put.f
  have := put_l0 l s hl l.length 0 k [] (by omega) (by simp) hk
  simpa using this
theorem putR_mem (s : ByteArray) : ∀ (l : List ByteArray) (y : List UInt8), y ∈ (putR l s).map (·.data.toList) ↔ y ∈ l.map (·.data.toList) ∨ y = s.data.toList
  | [], y => by simp [putR]
  | x :: r, y => by
    rw [putR]
    have ih := putR_mem s r y
    by_cases h : x.data.toList < s.data.toList
    · rw [if_pos h, List.map_cons, List.mem_cons, ih, List.map_cons, List.mem_cons, or_assoc]
    · rw [if_neg h]
      by_cases h2 : x.data.toList = s.data.toList
      · rw [if_pos h2, List.map_cons, List.mem_cons, ← h2]
        constructor
        · exact .inl
        · rintro (h | h)
          · exact h
          · exact .inl h
      · rw [if_neg h2, List.map_cons, List.mem_cons]
        constructor
        · rintro (h | h)
          · exact .inr h
          · exact .inl h
        · rintro (h | h)
          · exact .inr h
          · exact .inl h
theorem putR_inc (s : ByteArray) : ∀ (l : List ByteArray), (l.map (·.data.toList)).Pairwise (· < ·) → ((putR l s).map (·.data.toList)).Pairwise (· < ·)
  | [], _ => by simp [putR]
  | x :: r, h => by
    rw [List.map_cons, List.pairwise_cons] at h
    obtain ⟨h1, h2⟩ := h
    rw [putR]
    by_cases c : x.data.toList < s.data.toList
    · rw [if_pos c, List.map_cons, List.pairwise_cons]
      refine ⟨fun y hy => ?_, putR_inc s r h2⟩
      rcases (putR_mem s r y).1 hy with hy | rfl
      · exact h1 y hy
      · exact c
    · rw [if_neg c]
      by_cases c2 : x.data.toList = s.data.toList
      · rw [if_pos c2, List.map_cons, List.pairwise_cons]
        exact ⟨h1, h2⟩
      · rw [if_neg c2, List.map_cons, List.map_cons, List.pairwise_cons, List.pairwise_cons]
        have c3 : s.data.toList < x.data.toList := lt_of_le_ne _ _ (List.not_lt.1 c) (fun e => c2 e.symm)
        refine ⟨fun y hy => ?_, h1, h2⟩
        rcases List.mem_cons.1 hy with rfl | hy
        · exact c3
        · exact List.lt_trans c3 (h1 y hy)
theorem putR_len (s : ByteArray) : ∀ l : List ByteArray, (putR l s).length ≤ l.length + 1
  | [] => by simp [putR]
  | x :: r => by
    have := putR_len s r
    rw [putR]
    split
    · simp only [List.length_cons]; omega
    · split <;> simp only [List.length_cons] <;> omega
theorem rnames_l0 (e : List ByteArray) (he : ∀ x ∈ e, x.size ≤ 100000) (hl : e.length ≤ 100000) : ∀ (d i k : Nat) (acc : List ByteArray) (star : Bool), i + d = e.length → acc.length ≤ i → d + 400000 < k → (acc.map (·.data.toList)).Pairwise (· < ·) →
    ∃ r, pantryref11_Names.l0 k e acc star (i : Int) = some (r, star || (e.drop i).any starB) ∧ (r.map (·.data.toList)).Pairwise (· < ·) ∧ ∀ y, y ∈ r.map (·.data.toList) ↔ y ∈ acc.map (·.data.toList) ∨ y ∈ (nmsOf (e.drop i)).map (·.data.toList) := by
  intro d
  induction d with
  | zero =>
    intro i k acc star hi ha hk hp
    obtain ⟨k, rfl⟩ : ∃ j, k = j + 1 := ⟨k - 1, by omega⟩
    refine ⟨acc, ?_, hp, fun y => ?_⟩
    · rw [pantryref11_Names.l0, if_neg (by omega), List.drop_of_length_le (by omega)]
      simp
    · rw [List.drop_of_length_le (by omega)]
      simp [nmsOf]
  | succ d ih =>
    intro i k acc star hi ha hk hp
    obtain ⟨k, rfl⟩ : ∃ j, k = j + 1 := ⟨k - 1, by omega⟩
    have hlt : i < e.length := by omega
    have hs := he e[i] (List.getElem_mem hlt)
    rw [pantryref11_Names.l0, if_pos (by omega), if_pos (by omega), rdB e i hlt, ByteArray.toList_eq, w64n (by omega) (by omega), List.drop_eq_getElem_cons hlt]
    by_cases h : e[i].data.toList = [42]
    · have hb : starB e[i] = true := decide_eq_true h
      rw [if_pos h]
      obtain ⟨r, h1, h2, h3⟩ := ih (i + 1) k acc true (by omega) (by omega) (by omega) hp
      refine ⟨r, ?_, h2, fun y => ?_⟩
      · refine Eq.trans (show _ = _ from h1) ?_
        rw [List.any_cons, hb, Bool.true_or, Bool.or_true]
      · rw [h3, nmsOf_cons, if_pos hb]
    · have hb : starB e[i] = false := decide_eq_false h
      rw [if_neg h, rlow_eval _ (by omega) k (by omega), Option.bind_some, put_eval acc _ (by omega) k (by omega), Option.bind_some]
      obtain ⟨r, h1, h2, h3⟩ := ih (i + 1) k (putR acc (lowB e[i])) star (by omega) (by have := putR_len (lowB e[i]) acc; omega) (by omega) (putR_inc _ _ hp)
      refine ⟨r, ?_, h2, fun y => ?_⟩
      · refine Eq.trans (show _ = _ from h1) ?_
        rw [List.any_cons, hb, Bool.false_or]
      · rw [h3, putR_mem, nmsOf_cons, if_neg (by rw [hb]; simp), List.map_cons, List.mem_cons, or_assoc]
theorem getB_low (l : List S46) : getB (⟨#[118, 97, 114, 121]⟩ : ByteArray) l = getB varyU l := by
  unfold getB allV
  have e : isOf [(⟨#[118, 97, 114, 121]⟩ : ByteArray)] = isOf [varyU] := by
    funext f
    have : (⟨#[118, 97, 114, 121]⟩ : ByteArray) = lowB varyU := by decide +kernel
    simp [isOf, this, sameB_low]
  rw [e]
theorem map_inj_data : ∀ (a b : List ByteArray), a.map (·.data.toList) = b.map (·.data.toList) → a = b
  | [], [], _ => rfl
  | [], _ :: _, h => by simp at h
  | _ :: _, [], h => by simp at h
  | x :: a, y :: b, h => by
    simp only [List.map_cons, List.cons.injEq] at h
    rw [← of_list x, ← of_list y, h.1, map_inj_data a b h.2]
theorem rnames_eval (l : List S46) (h : SmallF l) (k : Nat) (hk : 5000000 < k) : pantryref11_Names.f k (l.map conv) = some (namesB (nmsOf (elemsB varyU l)), (elemsB varyU l).any starB) := by
  unfold pantryref11_Names.f
  have e : elemsB (⟨#[118, 97, 114, 121]⟩ : ByteArray) l = elemsB varyU l := by unfold elemsB; rw [getB_low]
  have hok := elems_ok varyU l h
  rw [relems2_eval _ l (by decide) h k (by omega), Option.bind_some, e]
  obtain ⟨r, h1, h2, h3⟩ := rnames_l0 (elemsB varyU l) (fun x hx => by have := hok.2 x hx; omega) hok.1 (elemsB varyU l).length 0 k [] false (by omega) (by simp) (by omega) (by simp)
  rw [List.drop_zero, Bool.false_or] at h1
  have : r = namesB (nmsOf (elemsB varyU l)) := by
    apply map_inj_data
    rw [namesB_eq, ofLists_to]
    refine inc_unique _ _ h2 (namesL_inc _) (fun y => ?_)
    rw [h3, namesL_mem, List.drop_zero]
    simp
  rw [← this]
  exact h1

/-! ## KeyTells -/
theorem ktells_l0 (xs : List ByteArray) (l : List S46) (y : List S51) (s0 : ByteArray) (s1 s2 s3 : Int) (Q s5 : Bool) (heads : List ByteArray) (p0 p1 p2 : ByteArray) (has : Bool) (hl : xs.length ≤ 1000000) : ∀ (d i k : Nat), i + d = xs.length → d < k →
    pantrylaw11_KeyTells.l0 k l y xs xs xs (xs.length : Int) (i : Int) s0 s1 s2 s3 Q s5 heads p0 p1 p2 has = pantrylaw11_KeyTells.l0 (k - d) l y xs xs xs (xs.length : Int) (xs.length : Int) s0 s1 s2 s3 Q s5 heads p0 p1 p2 has := by
  intro d
  induction d with
  | zero =>
    intro i k hi hk
    obtain rfl : i = xs.length := by omega
    rfl
  | succ d ih =>
    intro i k hi hk
    obtain ⟨k, rfl⟩ : ∃ j, k = j + 1 := ⟨k - 1, by omega⟩
    rw [pantrylaw11_KeyTells.l0, if_pos (by omega), if_pos (by omega), if_pos (by omega), if_pos (by omega), if_pos rfl, w64n (by omega) (by omega), show k + 1 - (d + 1) = k - d by omega]
    exact ih (i + 1) k (by omega) (by omega)
theorem elems_few (n : ByteArray) (l : List S46) (h : SmallP l) : (elemsB n l).length ≤ 9100 := by
  have hle : (allV n l).length ≤ l.length := by
    unfold allV
    rw [List.length_map]
    exact List.length_filter_le _ _
  have := inter_len commaB.data.toList 300 ((allV n l).map (·.data.toList)) (fun x hx => by
    obtain ⟨y, hy, rfl⟩ := List.mem_map.1 hx
    unfold allV at hy
    obtain ⟨f, hf, rfl⟩ := List.mem_map.1 hy
    have := (h.2 f (List.mem_filter.1 hf).1).2
    simpa using this)
  rw [List.length_map] at this
  have h2 : (commaB.data.toList).length = 2 := rfl
  rw [h2] at this
  have h3 : (allV n l).length * (300 + 2) ≤ 30 * 302 := Nat.mul_le_mul_right _ (by have := h.1; omega)
  have h4 : (getB n l).size = (joinB (allV n l) commaB).length := by
    show (joinB (allV n l) commaB).toArray.size = _
    simp
  have h5 : (joinB (allV n l) commaB).length ≤ 9060 := by
    show (List.intercalate _ _).length ≤ _
    omega
  have h6 := (listL_len ((getB n l).size + 1) (getB n l).data.toList).1
  unfold elemsB
  rw [List.length_map]
  omega
theorem law_KeyTells (s0 : ByteArray) (s1 s2 s3 : Int) (Q s5 : Bool) (heads : List ByteArray) (p0 p1 p2 : ByteArray) (has : Bool) (l : List S46) (hl : l.length ≤ 9223372036854775807) :
    ∃ k, pantrylaw11_KeyTells.f k s0 s1 s2 s3 Q s5 heads p0 p1 p2 has l = some true := by
  obtain ⟨K, hK⟩ : ∃ K, l.length + 6000000 ≤ K := ⟨_, Nat.le_refl _⟩
  refine ⟨K + 2, ?_⟩
  have jt : pantrylaw11_KeyTells.j0 (K + 2) l true s0 s1 s2 s3 Q s5 heads p0 p1 p2 has = some true := by rw [pantrylaw11_KeyTells.j0, if_pos rfl]
  unfold pantrylaw11_KeyTells.f
  rw [anchor_ok _ (by omega)]
  simp only [Option.bind_some]
  rw [if_pos trivial]
  obtain ⟨c, hc, hs⟩ := fit_eval s0 s1 s2 s3 Q s5 heads p0 p1 p2 has (K + 2) (by omega)
  obtain ⟨c3, hc3, hs3⟩ := small_eval l hl (K + 2) (by omega)
  rw [hc, hc3]
  simp only [Option.bind_some]
  cases c with
  | false => rw [if_neg (by simp)]; exact jt
  | true =>
    rw [if_pos rfl]
    cases c3 with
    | false => exact jt
    | true =>
      obtain ⟨hh, hp⟩ := hs rfl
      have hS := (hs3 rfl).F
      have hok := elems_ok varyU l hS
      have hfew := elems_few varyU l (hs3 rfl)
      rw [Bool.not_true, pantrylaw11_KeyTells.j0, if_neg (by simp), made_eval l (by have := hS.1; omega) (K + 1) (by omega), Option.bind_some, names_eval l hS (K + 1) (by omega), Option.bind_some, rnames_eval l hS (K + 1) (by omega), Option.bind_some]
      rw [if_neg (by simp), pantrylaw11_KeyTells.j1, if_neg (by simp)]
      have hnm : ∀ x ∈ namesB (nmsOf (elemsB varyU l)), x.size ≤ 80000 := by
        intro x hx
        rw [namesB_eq] at hx
        obtain ⟨z, hz, rfl⟩ := List.mem_map.1 hx
        rw [namesL_mem] at hz
        obtain ⟨y, hy, rfl⟩ := List.mem_map.1 hz
        obtain ⟨e, he, rfl⟩ := List.mem_map.1 hy
        have := hok.2 e (List.mem_filter.1 he).1
        rw [arr_size, lowB_list]
        unfold lowL
        rw [List.length_map]
        simpa using this
      have hle : (namesB (nmsOf (elemsB varyU l))).length ≤ 9100 := by
        rw [namesB_eq]
        have h2 := Lib.compact_length_le (((nmsOf (elemsB varyU l)).map (·.data.toList)).mergeSort (fun x y => decide (x ≤ y)))
        rw [List.length_mergeSort, List.length_map] at h2
        have h3 : (nmsOf (elemsB varyU l)).length ≤ (elemsB varyU l).length := by
          unfold nmsOf
          rw [List.length_map]
          exact List.length_filter_le _ _
        unfold namesL ofLists
        rw [List.length_map]
        omega
      generalize namesB (nmsOf (elemsB varyU l)) = xs at *
      have hL := ktells_l0 xs l (l.map conv) s0 s1 s2 s3 Q s5 heads p0 p1 p2 has (by omega) xs.length 0 K (by omega) (by omega)
      refine Eq.trans (show _ = _ from hL) ?_
      obtain ⟨j, hj⟩ : ∃ j, K - xs.length = j + 1 := ⟨K - xs.length - 1, by omega⟩
      rw [hj, pantrylaw11_KeyTells.l0, if_neg (by omega), first_eval s0 s1 s2 s3 Q s5 heads p0 p1 p2 has l hS hh hp.1 hp.2.1 hp.2.2 j (by omega), Option.bind_some]
      have hsite : pantrymade_Site.f s0 s1 s2 s3 Q s5 heads = some true := rfl
      rw [hsite, Option.bind_some, rfirst_eval s0 s1 s2 s3 Q s5 heads p0 p1 p2 has l hS hh hp.1 hp.2.1 hp.2.2 j (by omega), Option.bind_some, if_pos rfl]
      rw [key_eval l hS j (by omega) xs (by omega) (fun n hn => by have := hnm n hn; omega), Option.bind_some, rsecond_eval l hS xs (by omega) (fun n hn => by have := hnm n hn; omega) j (by omega), Option.bind_some]
      simp

end Go.Proofs.YtagjgnmchgabgaaGreatDoor.PAll
