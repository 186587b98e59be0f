import Derived.Test.YtcechlbeghcliaaDoorPAllx0
import Derived.Test.YtcechlbeghcliaaDoorPAllx1
import Derived.Test.YtcechlbeghcliaaDoorPAllx2
import Derived.Test.YtcechlbeghcliaaDoorPAllx3
import Derived.Test.YtcechlbeghcliaaDoorPAllx4
import Derived.Lib.Join
namespace Go.Proofs.YtcechlbeghcliaaDoor.PAll
open Go.RowKit Go.Proofs.YtcechlbeghcliaaDoorW.PrintWords Go.Proofs.YtcechlbeghcliaaDoorW.PrintLast Go.Proofs.YtcechlbeghcliaaDoorW.PrintMore
set_option linter.unusedVariables false
set_option linter.unusedSimpArgs false

theorem lowB_list (s : ByteArray) : (lowB s).data.toList = lowL s.data.toList := by simp [lowB]

theorem bt_at2 (s : ByteArray) (i : Nat) (h : i < s.data.toList.length) : bt s (i : Int) = ((s.data.toList[i]).toNat : Int) := by
  have h' : i < s.size := by simpa using h
  unfold bt
  simp only [Int.toNat_natCast]
  rw [dif_pos h']
  rfl

/-! What Without comes to (where With is not printed) -/
def isOf (ns : List ByteArray) (o : S49) : Bool := ns.any fun n => sameB n o.f0
def wout (ns : List ByteArray) (l : List S49) : List S49 := l.filter fun o => !isOf ns o
theorem w64n {x : Int} (h0 : -9223372036854775808 ≤ x) (h1 : x ≤ 9223372036854775807) : wrap64 x = x := by unfold wrap64; omega
theorem wout_l0 (ns : List ByteArray) (l : List S49) (hn : ns.length ≤ 140737488351232) (hns : ∀ x ∈ ns, x.size ≤ 140737488351232) (hl : ∀ x ∈ l, x.f0.size ≤ 140737488351232) (hlen : l.length < 4398046511104) :
    ∀ (d i : Nat) (acc : List S49) (k : Nat), i + d = l.length → acc.length ≤ i → d < k →
    field_List_Without.l0 k ns acc l (l.length : Int) (i : Int) = some (acc ++ wout ns (l.drop i)) := by
  intro d
  induction d with
  | zero =>
    intro i acc k hi ha hk
    obtain ⟨k, rfl⟩ : ∃ j, k = j + 1 := ⟨k - 1, by omega⟩
    simp only [field_List_Without.l0]
    rw [if_neg (by omega), List.drop_of_length_le (by omega)]
    simp [wout]
  | succ d ih =>
    intro i acc k hi ha hk
    obtain ⟨k, rfl⟩ : ∃ j, k = j + 1 := ⟨k - 1, by omega⟩
    have hlt : i < l.length := by omega
    have hx : rd_T49 l (i : Int) = l[i] := by simp [rd_T49, hlt]
    simp only [field_List_Without.l0]
    rw [if_pos (by omega), if_pos (by omega), if_pos (by omega), hx]
    unfold field_Field_named.f
    rw [if_pos ⟨hl _ (List.getElem_mem hlt), hn, hns⟩]
    simp only [Option.bind_some]
    rw [List.drop_eq_getElem_cons hlt, w64n (by omega) (by omega)]
    by_cases hs : isOf ns l[i] = true
    · have hs' : (ns.any fun n => sameB n l[i].f0) = true := hs
      rw [if_pos hs']
      have := ih (i + 1) acc k (by omega) (by omega) (by omega)
      rw [show ((i + 1 : Nat) : Int) = (i : Int) + 1 by omega] at this
      rw [this]
      unfold wout
      rw [List.filter_cons_of_neg (by simp [hs])]
    · have hs' : ¬ (ns.any fun n => sameB n l[i].f0) = true := hs
      rw [if_neg hs', if_pos (by omega)]
      have := ih (i + 1) (acc ++ [l[i]]) k (by omega) (by simp; omega) (by omega)
      rw [show ((i + 1 : Nat) : Int) = (i : Int) + 1 by omega] at this
      rw [this]
      unfold wout
      rw [List.filter_cons_of_pos (by simp [hs]), List.append_assoc]
      rfl
theorem wout_f (ns : List ByteArray) (l : List S49) (hn : ns.length ≤ 140737488351232) (hns : ∀ x ∈ ns, x.size ≤ 140737488351232) (hl : ∀ x ∈ l, x.f0.size ≤ 140737488351232) (hlen : l.length < 4398046511104) (k : Nat) (hk : l.length < k) :
    field_List_Without.f k l ns = some (wout ns l) := by
  unfold field_List_Without.f
  have := wout_l0 ns l hn hns hl hlen l.length 0 [] k (by omega) (by simp) hk
  simpa using this

/-! ## Fields, as lists -/
theorem anchor60 : pantrylaw13_anchor.f 60 = some true := by decide +kernel
theorem anchor_ok (k : Nat) (hk : 60 ≤ k) : pantrylaw13_anchor.f k = some true := by
  obtain ⟨j, rfl⟩ : ∃ j, k = 60 + j := ⟨k - 60, by omega⟩
  clear hk
  induction j with
  | zero => exact anchor60
  | succ j ih => exact pantrylaw13_anchor.mono _ _ ih
theorem rd39 (l : List S49) (i : Nat) (h : i < l.length) : rd_T49 l (i : Int) = l[i] := by simp [rd_T49, h]
theorem rdB (l : List ByteArray) (i : Nat) (h : i < l.length) : rdOf ByteArray.empty l (i : Int) = l[i] := by simp [rdOf, h]
def SmallF (l : List S49) : Prop := l.length ≤ 40 ∧ ∀ f ∈ l, f.f0.size ≤ 200 ∧ f.f1.size ≤ 20000
def SmallP (l : List S49) : Prop := l.length ≤ 30 ∧ ∀ f ∈ l, f.f0.size ≤ 100 ∧ f.f1.size ≤ 300
theorem SmallP.F {l : List S49} (h : SmallP l) : SmallF l := ⟨by have := h.1; omega, fun f hf => by have := h.2 f hf; omega⟩
theorem small_l0 (l : List S49) (hl : l.length ≤ 9223372036854775807) : ∀ (d i k : Nat), i + d = l.length → d < k →
    ∃ b, pantrylaw13_small.l0 k l l (l.length : Int) (i : Int) = some b ∧ (b = true → l.length ≤ 30 ∧ ∀ f ∈ l.drop i, f.f0.size ≤ 100 ∧ f.f1.size ≤ 300) := by
  intro d
  induction d with
  | zero =>
    intro i k hi hk
    obtain ⟨k, rfl⟩ : ∃ j, k = j + 1 := ⟨k - 1, by omega⟩
    simp only [pantrylaw13_small.l0]
    rw [if_neg (by omega)]
    refine ⟨_, rfl, fun h => ?_⟩
    have := of_decide_eq_true h
    rw [List.drop_of_length_le (by omega)]
    exact ⟨by omega, fun f hf => by cases hf⟩
  | succ d ih =>
    intro i k hi hk
    obtain ⟨k, rfl⟩ : ∃ j, k = j + 1 := ⟨k - 1, by omega⟩
    have hlt : i < l.length := by omega
    simp only [pantrylaw13_small.l0]
    rw [if_pos (by omega), if_pos (by omega), if_pos (by omega), rd39 l i hlt]
    by_cases h1 : ((l[i].f0).size : Int) > 100
    · rw [if_pos h1]; exact ⟨false, rfl, fun h => by cases h⟩
    · rw [if_neg h1]
      by_cases h2 : ((l[i].f1).size : Int) > 300
      · rw [if_pos h2]; exact ⟨false, rfl, fun h => by cases h⟩
      · rw [if_neg h2, w64n (by omega) (by omega)]
        obtain ⟨b, hb, hs⟩ := ih (i + 1) k (by omega) (by omega)
        refine ⟨b, hb, fun h => ?_⟩
        obtain ⟨h3, h4⟩ := hs h
        refine ⟨h3, fun f hf => ?_⟩
        rw [List.drop_eq_getElem_cons hlt] at hf
        rcases List.mem_cons.1 hf with rfl | hf
        · exact ⟨by omega, by omega⟩
        · exact h4 f hf
theorem small_eval (l : List S49) (hl : l.length ≤ 9223372036854775807) (k : Nat) (hk : l.length < k) : ∃ b, pantrylaw13_small.f k l = some b ∧ (b = true → SmallP l) := by
  obtain ⟨b, hb, hs⟩ := small_l0 l hl l.length 0 k (by omega) hk
  exact ⟨b, hb, fun h => by simpa [SmallP] using hs h⟩

/-! ## All, Get, Same -/
def allV (n : ByteArray) (l : List S49) : List ByteArray := (l.filter (isOf [n])).map (·.f1)
theorem all_l0 (n : ByteArray) (l : List S49) (hn : n.size ≤ 140737488351232) (hl : ∀ x ∈ l, x.f0.size ≤ 140737488351232) (hlen : l.length < 4398046511104) :
    ∀ (d i : Nat) (acc : List ByteArray) (k : Nat), i + d = l.length → acc.length ≤ i → d < k →
    field_List_All.l0 k n acc l (l.length : Int) (i : Int) = some (acc ++ allV n (l.drop i)) := by
  intro d
  induction d with
  | zero =>
    intro i acc k hi ha hk
    obtain ⟨k, rfl⟩ : ∃ j, k = j + 1 := ⟨k - 1, by omega⟩
    simp only [field_List_All.l0]
    rw [if_neg (by omega), List.drop_of_length_le (by omega)]
    simp [allV]
  | succ d ih =>
    intro i acc k hi ha hk
    obtain ⟨k, rfl⟩ : ∃ j, k = j + 1 := ⟨k - 1, by omega⟩
    have hlt : i < l.length := by omega
    simp only [field_List_All.l0]
    rw [if_pos (by omega), if_pos (by omega), if_pos (by omega), rd39 l i hlt]
    unfold field_Field_named.f
    rw [if_pos ⟨hl _ (List.getElem_mem hlt), by simp, by simpa using hn⟩]
    simp only [Option.bind_some]
    rw [List.drop_eq_getElem_cons hlt, w64n (by omega) (by omega)]
    by_cases hs : isOf [n] l[i] = true
    · have hs' : ([n].any fun n => sameB n l[i].f0) = true := hs
      rw [if_pos hs', if_pos (by omega)]
      have := ih (i + 1) (acc ++ [l[i].f1]) k (by omega) (by simp; omega) (by omega)
      rw [show ((i + 1 : Nat) : Int) = (i : Int) + 1 by omega] at this
      rw [this]
      unfold allV
      rw [List.filter_cons_of_pos hs, List.append_assoc]
      rfl
    · have hs' : ¬ ([n].any fun n => sameB n l[i].f0) = true := hs
      rw [if_neg hs']
      have := ih (i + 1) acc k (by omega) (by omega) (by omega)
      rw [show ((i + 1 : Nat) : Int) = (i : Int) + 1 by omega] at this
      rw [this]
      unfold allV
      rw [List.filter_cons_of_neg hs]
theorem all_eval (n : ByteArray) (l : List S49) (hn : n.size ≤ 140737488351232) (hl : ∀ x ∈ l, x.f0.size ≤ 140737488351232) (hlen : l.length < 4398046511104) (k : Nat) (hk : l.length < k) : field_List_All.f k l n = some (allV n l) := by
  unfold field_List_All.f
  have := all_l0 n l hn hl hlen l.length 0 [] k (by omega) (by simp) hk
  simpa using this
theorem inter_len (sep : List UInt8) (M : Nat) : ∀ (xs : List (List UInt8)), (∀ x ∈ xs, x.length ≤ M) → (sep.intercalate xs).length ≤ xs.length * (M + sep.length) := by
  intro xs
  induction xs with
  | nil => intro _; simp [List.intercalate]
  | cons x xs ih =>
    intro h
    have h1 := h x (by simp)
    have h2 := ih (fun y hy => h y (by simp [hy]))
    cases xs with
    | nil => simp [List.intercalate]; omega
    | cons y ys =>
      have e : sep.intercalate (x :: y :: ys) = x ++ (sep ++ sep.intercalate (y :: ys)) := by simp [List.intercalate]
      rw [e]
      simp only [List.length_append, List.length_cons, Nat.add_mul, Nat.one_mul] at *
      omega
theorem get_eval (n : ByteArray) (l : List S49) (hn : n.size ≤ 140737488351232) (hs : ∀ x ∈ l, x.f0.size ≤ 200 ∧ x.f1.size ≤ 20000) (hlen : l.length ≤ 1000000) (k : Nat) (hk : l.length < k) :
    field_List_Get.f k l n = some (⟨(joinB (allV n l) ⟨#[44, 32]⟩).toArray⟩, decide (0 < (allV n l).length)) := by
  unfold field_List_Get.f
  rw [all_eval n l hn (fun x hx => by have := (hs x hx).1; omega) (by omega) k hk]
  simp only [Option.bind_some]
  have hle : (allV n l).length ≤ l.length := by
    unfold allV
    rw [List.length_map]
    exact List.length_filter_le _ _
  have hok : joinOk (allV n l) ⟨#[44, 32]⟩ := by
    refine ⟨by omega, ?_⟩
    unfold joinB Lib.join
    have := inter_len (⟨#[44, 32]⟩ : ByteArray).data.toList 20000 ((allV n l).map (·.data.toList)) (fun x hx => by
      obtain ⟨y, hy, rfl⟩ := List.mem_map.1 hx
      unfold allV at hy
      obtain ⟨f, hf, rfl⟩ := List.mem_map.1 hy
      have := (hs f (List.mem_filter.1 hf).1).2
      simpa using this)
    rw [List.length_map] at this
    have h2 : ((⟨#[44, 32]⟩ : ByteArray).data.toList).length = 2 := rfl
    rw [h2] at this
    have : (allV n l).length * (20000 + 2) ≤ 1000000 * 20002 := Nat.mul_le_mul_right _ (by omega)
    omega
  unfold strings_Join.f
  rw [if_pos hok]
  simp only [Option.bind_some]
  congr 2
  rw [decide_eq_decide]
  omega

/-! ## FieldParts -/
theorem inter_app (sep : List UInt8) : ∀ (A B : List (List UInt8)), A ≠ [] → B ≠ [] → sep.intercalate (A ++ B) = sep.intercalate A ++ (sep ++ sep.intercalate B) := by
  intro A
  induction A with
  | nil => intro B h; exact absurd rfl h
  | cons x A ih =>
    intro B _ hB
    cases A with
    | nil =>
      cases B with
      | nil => exact absurd rfl hB
      | cons y ys => simp [List.intercalate]
    | cons z A =>
      have := ih B (by simp) hB
      have e1 : sep.intercalate (x :: z :: A) = x ++ (sep ++ sep.intercalate (z :: A)) := by simp [List.intercalate]
      have e2 : sep.intercalate (x :: z :: A ++ B) = x ++ (sep ++ sep.intercalate (z :: A ++ B)) := by simp [List.intercalate]
      rw [e1, e2, this]
      simp
def commaB : ByteArray := ⟨#[44, 32]⟩
def getB (n : ByteArray) (l : List S49) : ByteArray := ⟨(joinB (allV n l) commaB).toArray⟩
theorem getB_list (n : ByteArray) (l : List S49) : (getB n l).toList = joinB (allV n l) commaB := by
  rw [ByteArray.toList_eq]
  simp [getB]
theorem allV_app (n : ByteArray) (a b : List S49) : allV n (a ++ b) = allV n a ++ allV n b := by
  unfold allV
  rw [List.filter_append, List.map_append]
theorem joinB_app (A B : List ByteArray) (hA : A ≠ []) (hB : B ≠ []) : joinB (A ++ B) commaB = joinB A commaB ++ ([44, 32] ++ joinB B commaB) := by
  unfold joinB Lib.join
  rw [List.map_append]
  exact inter_app _ _ _ (by simpa using hA) (by simpa using hB)
theorem getB_size (n : ByteArray) (l : List S49) (h : SmallF l) : (getB n l).size ≤ 800080 := by
  have hle : (allV n l).length ≤ l.length := by
    unfold allV
    rw [List.length_map]
    exact List.length_filter_le _ _
  have := inter_len commaB.data.toList 20000 ((allV n l).map (·.data.toList)) (fun x hx => by
    obtain ⟨y, hy, rfl⟩ := List.mem_map.1 hx
    unfold allV at hy
    obtain ⟨f, hf, rfl⟩ := List.mem_map.1 hy
    have := (h.2 f (List.mem_filter.1 hf).1).2
    simpa using this)
  rw [List.length_map] at this
  have h2 : (commaB.data.toList).length = 2 := rfl
  rw [h2] at this
  have h3 : (allV n l).length * (20000 + 2) ≤ 40 * 20002 := Nat.mul_le_mul_right _ (by have := h.1; omega)
  have h4 : (getB n l).size = (joinB (allV n l) commaB).length := by
    show (joinB (allV n l) commaB).toArray.size = _
    simp
  rw [h4]
  show (List.intercalate _ _).length ≤ _
  omega

/-! ## Lists of elements -/
def endL : Bool → List UInt8 → Nat
  | _, [] => 0
  | q, [c] => if c = 34 then 1 else if q = true ∧ c = 92 then 1 else if q = false ∧ c = 44 then 0 else 1
  | q, c :: d :: l => if c = 34 then 1 + endL (!q) (d :: l) else if q = true ∧ c = 92 then 2 + endL q l else if q = false ∧ c = 44 then 0 else 1 + endL q (d :: l)
theorem endL_le : ∀ (n : Nat) (l : List UInt8) (q : Bool), l.length ≤ n → endL q l ≤ l.length := by
  intro n
  induction n with
  | zero =>
    intro l q h
    obtain rfl := List.eq_nil_of_length_eq_zero (by omega : l.length = 0)
    simp [endL]
  | succ n ih =>
    intro l q h
    match l, h with
    | [], _ => simp [endL]
    | [c], _ =>
      unfold endL
      simp only [List.length_cons, List.length_nil]
      split
      · omega
      · split
        · omega
        · split <;> omega
    | c :: d :: l, h =>
      simp only [List.length_cons] at h
      have h1 := ih (d :: l) (!q) (by simp; omega)
      have h2 := ih l q (by omega)
      have h3 := ih (d :: l) q (by simp; omega)
      unfold endL
      simp only [List.length_cons] at *
      split
      · omega
      · split
        · omega
        · split <;> omega
theorem u8_eq (c d : UInt8) : ((c.toNat : Int) = (d.toNat : Int)) ↔ c = d := by
  constructor
  · intro h
    exact UInt8.toNat_inj.1 (by omega)
  · rintro rfl; rfl
theorem end_past (s : ByteArray) (q : Bool) (i : Nat) (h : s.size ≤ i) (k : Nat) (hk : 0 < k) : sign_end.l0 k s q (i : Int) = some (s.size : Int) := by
  obtain ⟨k, rfl⟩ : ∃ j, k = j + 1 := ⟨k - 1, by omega⟩
  simp only [sign_end.l0]
  rw [if_neg (by omega)]
theorem end_l0 (s : ByteArray) (hs : s.size ≤ 1000000000) : ∀ (d i k : Nat) (q : Bool), i + d = s.size → 2 * d + 1 < k → sign_end.l0 k s q (i : Int) = some ((i + endL q (s.data.toList.drop i) : Nat) : Int) := by
  intro d
  induction d using Nat.strongRecOn with
  | _ d ih =>
    intro i k q hi hk
    have hz : s.data.toList.length = s.size := by simp
    cases d with
    | zero =>
      rw [end_past s q i (by omega) k (by omega), List.drop_of_length_le (by omega)]
      simp only [endL]
      congr 2
      omega
    | succ d =>
      obtain ⟨k, rfl⟩ : ∃ j, k = j + 1 := ⟨k - 1, by omega⟩
      have hlt : i < s.data.toList.length := by omega
      have n1 : ∀ (kk : Nat), 2 * d + 1 < kk → ∀ (q : Bool), sign_end.l0 kk s q ((i : Int) + 1) = some ((i + 1 + endL q (s.data.toList.drop (i + 1)) : Nat) : Int) := fun kk hkk q => by
        have := ih d (by omega) (i + 1) kk q (by omega) hkk
        rwa [show ((i + 1 : Nat) : Int) = (i : Int) + 1 by omega] at this
      have n2 : d = 0 ∨ 0 < d ∧ ∀ (kk : Nat), 2 * d < kk → ∀ (q : Bool), sign_end.l0 kk s q ((i : Int) + 1 + 1) = some ((i + 2 + endL q (s.data.toList.drop (i + 2)) : Nat) : Int) := by
        rcases Nat.eq_zero_or_pos d with h | h
        · exact .inl h
        · refine .inr ⟨h, fun kk hkk q => ?_⟩
          have := ih (d - 1) (by omega) (i + 2) kk q (by omega) (by omega)
          rwa [show ((i + 2 : Nat) : Int) = (i : Int) + 1 + 1 by omega] at this
      simp only [sign_end.l0]
      have hbt := bt_at2 s i hlt
      rw [if_pos (by omega), if_pos (by omega), hbt, w64n (by omega) (by omega)]
      rw [List.drop_eq_getElem_cons hlt]
      have e34 : ((s.data.toList[i]).toNat : Int) = 34 ↔ s.data.toList[i] = 34 := u8_eq _ 34
      have e92 : ((s.data.toList[i]).toNat : Int) = 92 ↔ s.data.toList[i] = 92 := u8_eq _ 92
      have e44 : ((s.data.toList[i]).toNat : Int) = 44 ↔ s.data.toList[i] = 44 := u8_eq _ 44
      generalize s.data.toList[i] = c at *
      have hstep : ∀ (q q' : Bool), endL q (c :: s.data.toList.drop (i + 1)) = 1 + endL q' (s.data.toList.drop (i + 1)) → some ((i + 1 + endL q' (s.data.toList.drop (i + 1)) : Nat) : Int) = some ((i + endL q (c :: s.data.toList.drop (i + 1)) : Nat) : Int) := by
        intro q q' h
        rw [h]
        congr 2
        omega
      by_cases h1 : c = 34
      · rw [if_pos (e34.2 h1), n1 _ (by omega)]
        refine hstep _ _ ?_
        subst h1
        cases s.data.toList.drop (i + 1) <;> simp [endL]
      · rw [if_neg (fun h => h1 (e34.1 h))]
        cases q with
        | true =>
          rw [if_pos rfl]
          obtain ⟨k, rfl⟩ : ∃ j, k = j + 1 := ⟨k - 1, by omega⟩
          simp only [sign_end.j1]
          by_cases h2 : c = 92
          · have hb : (((c.toNat : Int)) == 92) = true := beq_iff_eq.2 (e92.2 h2)
            rw [hb, if_pos rfl, w64n (x := (i : Int) + 1) (by omega) (by omega), w64n (by omega) (by omega)]
            rcases n2 with rfl | ⟨hd0, n2⟩
            · have := end_past s true (i + 2) (by omega) k (by omega)
              rw [show ((i + 2 : Nat) : Int) = (i : Int) + 1 + 1 by omega] at this
              rw [this, List.drop_of_length_le (by omega)]
              subst h2
              have e1 : endL true [(92 : UInt8)] = 1 := by decide
              rw [e1]
              exact congrArg some (by omega)
            · rw [n2 _ (by omega)]
              subst h2
              cases hd : s.data.toList.drop (i + 1) with
              | nil =>
                have := congrArg List.length hd
                rw [List.length_drop] at this
                simp only [List.length_nil] at this
                omega
              | cons x l =>
                have e2 : s.data.toList.drop (i + 2) = l := by
                  have := congrArg (List.drop 1) hd
                  rw [List.drop_drop] at this
                  simpa using this
                rw [e2]
                have e1 : endL true ((92 : UInt8) :: x :: l) = 2 + endL true l := by simp [endL]
                rw [e1]
                exact congrArg some (by omega)
          · have hb : (((c.toNat : Int)) == 92) = false := beq_eq_false_iff_ne.2 (fun h => h2 (e92.1 h))
            rw [hb, if_neg (by simp), if_pos trivial, w64n (by omega) (by omega), n1 _ (by omega)]
            refine hstep _ _ ?_
            cases s.data.toList.drop (i + 1) <;> simp [endL, h1, h2]
        | false =>
          rw [if_neg (by simp)]
          obtain ⟨k, rfl⟩ : ∃ j, k = j + 1 := ⟨k - 1, by omega⟩
          simp only [sign_end.j1]
          rw [if_neg (by simp), if_neg (by simp), if_pos (by omega), if_pos (by omega), hbt]
          by_cases h3 : c = 44
          · rw [if_pos (e44.2 h3)]
            subst h3
            cases s.data.toList.drop (i + 1) <;> simp [endL]
          · rw [if_neg (fun h => h3 (e44.1 h)), w64n (by omega) (by omega), n1 _ (by omega)]
            refine hstep _ _ ?_
            cases s.data.toList.drop (i + 1) <;> simp [endL, h1, h3]

def toB (l : List UInt8) : ByteArray := ⟨l.toArray⟩
theorem toB_list (l : List UInt8) : (toB l).data.toList = l := by simp [toB]
theorem of_list (s : ByteArray) : toB s.data.toList = s := by cases s; simp [toB]
theorem size_l (s : ByteArray) : s.size = s.data.toList.length := by simp
theorem ext_l (s : ByteArray) (a b : Nat) : (s.extract a b).data.toList = (s.data.toList.drop a).take (b - a) := by
  rw [ByteArray.data_extract, Array.toList_extract]
def trimL (l : List UInt8) : List UInt8 := Lib.trimS l [32, 9]
theorem dropWhile_len {α : Type} (p : α → Bool) (l : List α) : (l.dropWhile p).length ≤ l.length := (List.dropWhile_sublist p).length_le
theorem trimL_len (l : List UInt8) : (trimL l).length ≤ l.length := by
  unfold trimL Lib.trimS Lib.trimLeftS Lib.trimRightS
  refine Nat.le_trans (dropWhile_len _ _) ?_
  rw [List.length_reverse]
  refine Nat.le_trans (dropWhile_len _ _) ?_
  rw [List.length_reverse]
  exact Nat.le_refl _
theorem trim_eval (s : ByteArray) (hs : s.size ≤ 9223372036854775807) : sign_Trim.f s = some (toB (trimL s.data.toList)) := by
  unfold sign_Trim.f strings_Trim.f
  rw [if_pos ⟨hs, by decide, by decide⟩]
  rfl
def listL : Nat → List UInt8 → List (List UInt8)
  | 0, _ => []
  | k + 1, l => if l = [] then [] else (if trimL (l.take (endL false l)) = [] then [] else [trimL (l.take (endL false l))]) ++ listL k (l.drop (endL false l + 1))
theorem list_l0 : ∀ (n : Nat) (s : ByteArray) (acc : List ByteArray) (k : Nat), s.size ≤ n → n ≤ 1000000000 → acc.length + s.size ≤ 1000000000 → 3 * n + 10 < k →
    sign_List.l0 k s acc = some (acc ++ (listL (n + 1) s.data.toList).map toB) := by
  intro n
  induction n with
  | zero =>
    intro s acc k h0 h1 h2 hk
    obtain ⟨k, rfl⟩ : ∃ j, k = j + 1 := ⟨k - 1, by omega⟩
    have hnil : s.data.toList = [] := List.eq_nil_of_length_eq_zero (by rw [← size_l]; omega)
    simp only [sign_List.l0]
    rw [ByteArray.toList_eq, hnil, if_pos rfl]
    simp [listL]
  | succ n ih =>
    intro s acc k h0 h1 h2 hk
    obtain ⟨k, rfl⟩ : ∃ j, k = j + 1 := ⟨k - 1, by omega⟩
    simp only [sign_List.l0]
    rw [ByteArray.toList_eq]
    by_cases hnil : s.data.toList = []
    · rw [if_pos hnil, hnil]
      simp [listL]
    · rw [if_neg hnil]
      have hpos : 0 < s.size := by
        rw [size_l]
        exact List.length_pos_iff.2 hnil
      have he : sign_end.f k s = some ((endL false s.data.toList : Nat) : Int) := by
        unfold sign_end.f
        have := end_l0 s (by omega) s.size 0 k false (by omega) (by omega)
        rw [List.drop_zero, Nat.zero_add] at this
        exact this
      have hle := endL_le s.data.toList.length s.data.toList false (Nat.le_refl _)
      rw [← size_l] at hle
      rw [he]
      simp only [Option.bind_some]
      rw [listL, if_neg hnil]
      generalize hE : endL false s.data.toList = E at *
      rw [if_pos (by omega), if_pos (by omega), trim_eval _ (by rw [ByteArray.size_extract]; omega)]
      simp only [Option.bind_some]
      rw [ByteArray.toList_eq, toB_list, ext_l, Int.toNat_natCast, List.drop_zero, Nat.sub_zero]
      have hmn : mn (wrap64 ((E : Int) + 1)) (s.size : Int) = ((min (E + 1) s.size : Nat) : Int) := by
        rw [w64n (by omega) (by omega)]
        unfold mn
        split <;> omega
      rw [hmn, Int.toNat_natCast]
      have hsz : (s.extract (min (E + 1) s.size) s.size).size ≤ n := by rw [ByteArray.size_extract]; omega
      have hdl : (s.extract (min (E + 1) s.size) s.size).data.toList = s.data.toList.drop (E + 1) := by
        rw [ext_l]
        have hz := size_l s
        by_cases hc : E + 1 ≤ s.size
        · rw [Nat.min_eq_left hc]
          exact List.take_of_length_le (by rw [List.length_drop]; omega)
        · rw [List.drop_of_length_le (l := s.data.toList) (i := E + 1) (by omega), List.drop_of_length_le (by omega)]
          exact List.take_nil
      have hsz2 : (s.extract (min (E + 1) s.size) s.size).size ≤ s.size - 1 := by rw [ByteArray.size_extract]; omega
      by_cases ht : trimL (s.data.toList.take E) = []
      · rw [if_pos ht, if_pos ht, if_pos (by omega), if_pos (by omega), List.nil_append]
        rw [ih _ acc k hsz (by omega) (by omega) (by omega), hdl]
      · rw [if_neg ht, if_neg ht, if_pos (by omega), if_pos (by omega), if_pos (by omega)]
        rw [ih _ (acc ++ [toB (trimL (s.data.toList.take E))]) k hsz (by omega) (by simp; omega) (by omega), hdl]
        simp
theorem list_eval (s : ByteArray) (hs : s.size ≤ 1000000) (k : Nat) (hk : 3000100 < k) : sign_List.f k s = some ((listL (s.size + 1) s.data.toList).map toB) := by
  unfold sign_List.f
  have := list_l0 s.size s [] k (Nat.le_refl _) (by omega) (by simp; omega) (by omega)
  simpa using this
theorem listL_len : ∀ (n : Nat) (l : List UInt8), (listL n l).length ≤ n ∧ ∀ x ∈ listL n l, x.length ≤ l.length := by
  intro n
  induction n with
  | zero => intro l; simp [listL]
  | succ n ih =>
    intro l
    rw [listL]
    by_cases h : l = []
    · rw [if_pos h]; simp
    · rw [if_neg h]
      obtain ⟨i1, i2⟩ := ih (l.drop (endL false l + 1))
      have hd : (l.drop (endL false l + 1)).length ≤ l.length := by rw [List.length_drop]; omega
      by_cases ht : trimL (l.take (endL false l)) = []
      · rw [if_pos ht, List.nil_append]
        exact ⟨by omega, fun x hx => Nat.le_trans (i2 x hx) hd⟩
      · rw [if_neg ht]
        refine ⟨by simp; omega, fun x hx => ?_⟩
        rcases List.mem_append.1 hx with hx | hx
        · obtain rfl := List.mem_singleton.1 hx
          refine Nat.le_trans (trimL_len _) ?_
          rw [List.length_take]
          omega
        · exact Nat.le_trans (i2 x hx) hd
def elemsB (n : ByteArray) (l : List S49) : List ByteArray := (listL ((getB n l).size + 1) (getB n l).data.toList).map toB
theorem elems_eval (n : ByteArray) (l : List S49) (hn : n.size ≤ 1000) (h : SmallF l) (k : Nat) (hk : 3000100 < k) : field_List_Elements.f k l n = some (elemsB n l) := by
  unfold field_List_Elements.f
  have g : field_List_Get.f k l n = some (getB n l, decide (0 < (allV n l).length)) := get_eval n l (by omega) h.2 (by have := h.1; omega) k (by have := h.1; omega)
  rw [g]
  simp only [Option.bind_some]
  have := getB_size n l h
  rw [list_eval _ (by omega) k hk]
  rfl
theorem elems_ok (n : ByteArray) (l : List S49) (h : SmallF l) : (elemsB n l).length ≤ 900000 ∧ ∀ x ∈ elemsB n l, x.size ≤ 800080 := by
  have hg := getB_size n l h
  obtain ⟨i1, i2⟩ := listL_len ((getB n l).size + 1) (getB n l).data.toList
  unfold elemsB
  refine ⟨by rw [List.length_map]; omega, fun x hx => ?_⟩
  obtain ⟨y, hy, rfl⟩ := List.mem_map.1 hx
  have := i2 y hy
  rw [← size_l] at this
  rw [size_l, toB_list]
  omega

/-! Small letters of small letters -/
theorem lowU_idem (c : UInt8) : lowU (lowU c) = lowU c := by
  unfold lowU
  by_cases h : 65 ≤ c.toNat ∧ c.toNat ≤ 90
  · rw [if_pos h]
    have e : (UInt8.ofNat (c.toNat + 32)).toNat = c.toNat + 32 := by simp; omega
    rw [if_neg (by rw [e]; omega)]
  · rw [if_neg h, if_neg h]
theorem lowL_idem (l : List UInt8) : lowL (lowL l) = lowL l := by
  unfold lowL
  rw [List.map_map]
  exact List.map_congr_left fun c _ => lowU_idem c
theorem lowB_size (s : ByteArray) : (lowB s).size = s.size := by
  rw [size_l, size_l, lowB_list]
  simp [lowL]
theorem sameB_low (a b : ByteArray) : sameB (lowB a) b = sameB a b := by
  unfold sameB
  rw [lowB_list, lowL_idem]
theorem sameB_low2 (a b : ByteArray) : sameB a (lowB b) = sameB a b := by
  unfold sameB
  rw [lowB_list, lowL_idem]

/-! ## Strip -/
theorem isOf_append (A B : List ByteArray) (f : S49) : isOf (A ++ B) f = (isOf A f || isOf B f) := by unfold isOf; rw [List.any_append]
theorem isOf_low (n : ByteArray) : isOf [lowB n] = isOf [n] := by
  funext o
  unfold isOf
  simp only [List.any_cons, List.any_nil, Bool.or_false]
  exact sameB_low n o.f0
theorem isOf_map_low (ns : List ByteArray) (f : S49) : isOf (ns.map lowB) f = isOf ns f := by
  unfold isOf
  rw [List.any_map]
  congr 1
  funext n
  exact sameB_low n f.f0
theorem wout_congr {A B : List ByteArray} (h : ∀ f, isOf A f = isOf B f) (l : List S49) : wout A l = wout B l := by
  unfold wout
  apply List.filter_congr
  intro x _
  rw [h]
theorem wout_len (ns : List ByteArray) (l : List S49) : (wout ns l).length ≤ l.length := List.length_filter_le _ _
theorem wout_mem {ns : List ByteArray} {l : List S49} {x : S49} (h : x ∈ wout ns l) : x ∈ l := (List.mem_filter.1 h).1
theorem wout_not {ns : List ByteArray} {l : List S49} {x : S49} (h : x ∈ wout ns l) : isOf ns x = false := by
  have := (List.mem_filter.1 h).2
  simpa using this
theorem wout_all {ns : List ByteArray} {l : List S49} (h : ∀ x ∈ l, isOf ns x = false) : wout ns l = l := List.filter_eq_self.2 fun x hx => by rw [h x hx]; rfl
theorem wout_wout (A B : List ByteArray) (l : List S49) : wout B (wout A l) = wout (A ++ B) l := by
  unfold wout
  rw [List.filter_filter]
  apply List.filter_congr
  intro x _
  rw [isOf_append, Bool.not_or, Bool.and_comm]
theorem SmallF_wout {l : List S49} (h : SmallF l) (ns : List ByteArray) : SmallF (wout ns l) := ⟨by have := wout_len ns l; have := h.1; omega, fun f hf => h.2 f (wout_mem hf)⟩

def connU : ByteArray := ⟨#[67, 111, 110, 110, 101, 99, 116, 105, 111, 110]⟩
def connL : ByteArray := ⟨#[99, 111, 110, 110, 101, 99, 116, 105, 111, 110]⟩
def fixU : List ByteArray := [⟨#[67, 111, 110, 110, 101, 99, 116, 105, 111, 110]⟩, ⟨#[75, 101, 101, 112, 45, 65, 108, 105, 118, 101]⟩, ⟨#[80, 114, 111, 120, 121, 45, 65, 117, 116, 104, 101, 110, 116, 105, 99, 97, 116, 101]⟩, ⟨#[80, 114, 111, 120, 121, 45, 65, 117, 116, 104, 111, 114, 105, 122, 97, 116, 105, 111, 110]⟩, ⟨#[80, 114, 111, 120, 121, 45, 67, 111, 110, 110, 101, 99, 116, 105, 111, 110]⟩, ⟨#[84, 69]⟩, ⟨#[84, 114, 97, 105, 108, 101, 114]⟩, ⟨#[84, 114, 97, 110, 115, 102, 101, 114, 45, 69, 110, 99, 111, 100, 105, 110, 103]⟩, ⟨#[85, 112, 103, 114, 97, 100, 101]⟩, ⟨#[67, 111, 110, 116, 101, 110, 116, 45, 76, 101, 110, 103, 116, 104]⟩]
def fixL : List ByteArray := [⟨#[99, 111, 110, 110, 101, 99, 116, 105, 111, 110]⟩, ⟨#[107, 101, 101, 112, 45, 97, 108, 105, 118, 101]⟩, ⟨#[112, 114, 111, 120, 121, 45, 97, 117, 116, 104, 101, 110, 116, 105, 99, 97, 116, 101]⟩, ⟨#[112, 114, 111, 120, 121, 45, 97, 117, 116, 104, 111, 114, 105, 122, 97, 116, 105, 111, 110]⟩, ⟨#[112, 114, 111, 120, 121, 45, 99, 111, 110, 110, 101, 99, 116, 105, 111, 110]⟩, ⟨#[116, 101]⟩, ⟨#[116, 114, 97, 105, 108, 101, 114]⟩, ⟨#[116, 114, 97, 110, 115, 102, 101, 114, 45, 101, 110, 99, 111, 100, 105, 110, 103]⟩, ⟨#[117, 112, 103, 114, 97, 100, 101]⟩, ⟨#[99, 111, 110, 116, 101, 110, 116, 45, 108, 101, 110, 103, 116, 104]⟩]
def viaU : ByteArray := ⟨#[86, 105, 97]⟩
def viaL : ByteArray := ⟨#[118, 105, 97]⟩
def nameB : ByteArray := ⟨#[49, 46, 49, 32, 112, 97, 110, 116, 114, 121]⟩
theorem fix_sizes : ∀ n ∈ fixU, n.size ≤ 100 := by decide +kernel
def stripN (l : List S49) : List ByteArray := elemsB connU l ++ fixU
def stripV (l : List S49) : List S49 := wout (stripN l) l
theorem stripN_ok (l : List S49) (h : SmallF l) : (stripN l).length ≤ 900010 ∧ ∀ n ∈ stripN l, n.size ≤ 800080 := by
  obtain ⟨e1, e2⟩ := elems_ok connU l h
  unfold stripN
  have : fixU.length = 10 := rfl
  refine ⟨by rw [List.length_append]; omega, fun n hn => ?_⟩
  rcases List.mem_append.1 hn with hn | hn
  · exact e2 n hn
  · have := fix_sizes n hn
    omega
theorem strip_eval (l : List S49) (h : SmallF l) (k : Nat) (hk : 3000100 < k) : pass_Strip.f k l = some (stripV l) := by
  have e : pass_Strip.f k l = ((field_List_Elements.f k l connU).bind fun t => if t.length + 10 < 8796093022208 then ((field_List_Without.f k l (t ++ fixU)).bind fun x => some x) else none) := rfl
  rw [e, elems_eval connU l (by decide) h k hk]
  simp only [Option.bind_some]
  obtain ⟨e1, e2⟩ := elems_ok connU l h
  obtain ⟨n1, n2⟩ := stripN_ok l h
  have hl := h.1
  rw [if_pos (by omega)]
  have w := wout_f (stripN l) l (by omega) (fun x hx => by have := n2 x hx; omega) (fun x hx => by have := (h.2 x hx).1; omega) (by omega) k (by omega)
  have w2 : field_List_Without.f k l (elemsB connU l ++ fixU) = some (stripV l) := w
  rw [w2]
  rfl
theorem SmallF_strip {l : List S49} (h : SmallF l) : SmallF (stripV l) := SmallF_wout h _
/-- A name that goes no further isn't there. -/
theorem strip_no (l : List S49) (n m : ByteArray) (hm : m ∈ stripN l) (hs : lowB n = lowB m) : allV n (stripV l) = [] := by
  unfold allV
  rw [List.map_eq_nil_iff, List.filter_eq_nil_iff]
  intro f hf
  have h1 := wout_not hf
  intro hc
  rw [← isOf_low, hs, isOf_low] at hc
  have hc2 : sameB m f.f0 = true := by simpa [isOf] using hc
  have : isOf (stripN l) f = true := List.any_eq_true.2 ⟨m, hm, hc2⟩
  rw [this] at h1
  cases h1
theorem conn_in (l : List S49) : connU ∈ stripN l := List.mem_append.2 (.inr (List.mem_cons_self ..))
theorem strip_strip (l : List S49) : stripV (stripV l) = stripV l := by
  have h0 : allV connU (stripV l) = [] := strip_no l connU connU (conn_in l) rfl
  have h1 : elemsB connU (stripV l) = [] := by
    unfold elemsB getB
    rw [h0]
    rfl
  have h2 : stripV (stripV l) = wout fixU (stripV l) := by
    have : stripN (stripV l) = fixU := by unfold stripN; rw [h1, List.nil_append]
    show wout (stripN (stripV l)) (stripV l) = _
    rw [this]
  rw [h2]
  refine wout_all (fun x hx => ?_)
  have := wout_not hx
  unfold stripN at this
  rw [isOf_append, Bool.or_eq_false_iff] at this
  exact this.2
def markV (l : List S49) : ByteArray := (if 0 < (allV viaU l).length then getB viaU l ++ commaB else getB viaU l) ++ nameB
def onwardV (l : List S49) : List S49 := wout [viaU] (stripV l) ++ [⟨viaU, markV l⟩]
theorem mark_size (l : List S49) (h : SmallF l) : (markV l).size ≤ 800092 := by
  have := getB_size viaU l h
  have s1 : commaB.size = 2 := rfl
  have s2 : nameB.size = 10 := rfl
  unfold markV
  rw [ByteArray.size_append]
  split
  · rw [ByteArray.size_append]; omega
  · omega
theorem onward_eval (l : List S49) (h : SmallF l) (k : Nat) (hk : 3000100 < k) : pass_Onward.f k l = some (onwardV l) := by
  have e : pass_Onward.f k l = ((field_List_Get.f k l viaU).bind fun bt => (if bt.2 = true then (if bt.1.size + 2 ≤ 9223372036854775807 then ((pass_Strip.f k l).bind fun t => ((field_List_Without.f k t [viaU]).bind fun u => (if (bt.1 ++ commaB).size + 10 ≤ 9223372036854775807 then (if u.length < 4398046511104 then some (u ++ [⟨viaU, (bt.1 ++ commaB) ++ nameB⟩]) else none) else none))) else none) else ((pass_Strip.f k l).bind fun t => ((field_List_Without.f k t [viaU]).bind fun u => (if bt.1.size + 10 ≤ 9223372036854775807 then (if u.length < 4398046511104 then some (u ++ [⟨viaU, bt.1 ++ nameB⟩]) else none) else none))))) := rfl
  have hl := h.1
  have g : field_List_Get.f k l viaU = some (getB viaU l, decide (0 < (allV viaU l).length)) := get_eval viaU l (by decide) h.2 (by omega) k (by omega)
  have hs := SmallF_strip h
  have hsl := hs.1
  have w : field_List_Without.f k (stripV l) [viaU] = some (wout [viaU] (stripV l)) := wout_f [viaU] (stripV l) (by decide) (by decide) (fun x hx => by have := (hs.2 x hx).1; omega) (by omega) k (by omega)
  have hw := wout_len [viaU] (stripV l)
  have hg := getB_size viaU l h
  have s1 : commaB.size = 2 := rfl
  rw [e, g]
  simp only [Option.bind_some]
  rw [strip_eval l h k hk]
  simp only [Option.bind_some]
  rw [w]
  simp only [Option.bind_some]
  unfold onwardV markV
  by_cases hc : 0 < (allV viaU l).length
  · rw [if_pos (decide_eq_true hc), if_pos (by omega), if_pos (by rw [ByteArray.size_append]; omega), if_pos (by omega), if_pos hc]
  · rw [if_neg (by rw [decide_eq_false hc]; simp), if_pos (by omega), if_pos (by omega), if_neg hc]

/-! ## PassVia -/
theorem ba_ext {a b : ByteArray} (h : a.data.toList = b.data.toList) : a = b := by rw [← of_list a, ← of_list b, h]
def viaL2 (l : List S49) : List S49 := wout [viaU] (stripV l)
theorem via_conn : sameB connU viaU = false := by decide +kernel
theorem via_fix : ∀ n ∈ fixU, sameB n viaU = false := by decide +kernel
theorem via_via : sameB viaU viaU = true := by decide +kernel
theorem via_strip (l : List S49) (w : ByteArray) : stripV (viaL2 l ++ [⟨viaU, w⟩]) = viaL2 l ++ [⟨viaU, w⟩] := by
  have h0 : allV connU (viaL2 l ++ [⟨viaU, w⟩]) = [] := by
    rw [allV_app]
    have h1 : allV connU (viaL2 l) = [] := by
      have h2 := strip_no l connU connU (conn_in l) rfl
      unfold allV at h2 ⊢
      rw [List.map_eq_nil_iff, List.filter_eq_nil_iff] at h2 ⊢
      exact fun f hf => h2 f (wout_mem hf)
    have h3 : allV connU [(⟨viaU, w⟩ : S49)] = [] := by
      unfold allV
      rw [List.filter_cons_of_neg (by simp [isOf, via_conn])]
      rfl
    rw [h1, h3]
    rfl
  have h1 : elemsB connU (viaL2 l ++ [⟨viaU, w⟩]) = [] := by
    unfold elemsB getB
    rw [h0]
    rfl
  have h2 : stripV (viaL2 l ++ [⟨viaU, w⟩]) = wout fixU (viaL2 l ++ [⟨viaU, w⟩]) := by
    have : stripN (viaL2 l ++ [⟨viaU, w⟩]) = fixU := by unfold stripN; rw [h1, List.nil_append]
    show wout (stripN _) _ = _
    rw [this]
  rw [h2]
  refine wout_all (fun x hx => ?_)
  rcases List.mem_append.1 hx with hx | hx
  · have := wout_not (wout_mem hx)
    unfold stripN at this
    rw [isOf_append, Bool.or_eq_false_iff] at this
    exact this.2
  · obtain rfl := List.mem_singleton.1 hx
    unfold isOf
    rw [List.any_eq_false]
    intro n hn
    rw [via_fix n hn]
    simp
theorem via_out (l : List S49) (w : ByteArray) : wout [viaU] (viaL2 l ++ [⟨viaU, w⟩]) = viaL2 l := by
  have h1 : wout [viaU] (viaL2 l) = viaL2 l := wout_all (fun x hx => wout_not hx)
  have h2 : wout [viaU] [(⟨viaU, w⟩ : S49)] = [] := List.filter_cons_of_neg (by simp [isOf, via_via])
  have h3 : wout [viaU] (viaL2 l ++ [⟨viaU, w⟩]) = wout [viaU] (viaL2 l) ++ wout [viaU] [⟨viaU, w⟩] := by unfold wout; rw [List.filter_append]
  rw [h3, h1, h2, List.append_nil]
theorem via_all (l : List S49) (w : ByteArray) : allV viaU (viaL2 l ++ [⟨viaU, w⟩]) = [w] := by
  rw [allV_app]
  have h1 : allV viaU (viaL2 l) = [] := by
    unfold allV
    rw [List.map_eq_nil_iff, List.filter_eq_nil_iff]
    intro f hf
    rw [wout_not hf]
    simp
  have h3 : allV viaU [(⟨viaU, w⟩ : S49)] = [w] := by
    unfold allV
    rw [List.filter_cons_of_pos (by simp [isOf, via_via])]
    rfl
  rw [h1, h3]
  rfl
theorem one_join (w : ByteArray) : joinB [w] commaB = w.data.toList := by simp [joinB, Lib.join, List.intercalate]
theorem via_get (l : List S49) (w : ByteArray) : getB viaU (viaL2 l ++ [⟨viaU, w⟩]) = w := by
  apply ba_ext
  rw [← ByteArray.toList_eq, getB_list, via_all, one_join]
def nextV (w : ByteArray) (ok : Bool) : ByteArray := if ok = true then w ++ commaB ++ nameB else nameB
theorem next_eval (w : ByteArray) (ok : Bool) (hw : w.size ≤ 1000000000) : pantrylaw13_next.f w ok = some (nextV w ok) := by
  unfold pantrylaw13_next.f nextV
  cases ok with
  | false => rw [if_neg (by simp), if_neg (by simp)]; rfl
  | true =>
    rw [if_pos rfl, if_pos rfl, if_pos (by omega)]
    congr 1
    apply ba_ext
    simp [commaB, nameB]
theorem via_onward (l : List S49) (w : ByteArray) : onwardV (viaL2 l ++ [⟨viaU, w⟩]) = viaL2 l ++ [⟨viaU, nextV w true⟩] := by
  unfold onwardV
  rw [via_strip, via_out]
  congr 2
  unfold markV nextV
  rw [via_all, via_get, if_pos (by simp), if_pos rfl]
theorem via_onward0 (l : List S49) (w : ByteArray) (hw : w.toList = (getB viaU l).toList) : onwardV l = viaL2 l ++ [⟨viaU, nextV w (decide (0 < (allV viaU l).length))⟩] := by
  have e : w = getB viaU l := ba_ext (by rw [← ByteArray.toList_eq, ← ByteArray.toList_eq, hw])
  subst e
  unfold onwardV
  show viaL2 l ++ _ = _
  congr 2
  unfold markV nextV
  by_cases h : 0 < (allV viaU l).length
  · rw [if_pos h, if_pos (decide_eq_true h)]
  · rw [if_neg h, if_neg (by rw [decide_eq_false h]; simp)]
    congr 1
    have h0 : allV viaU l = [] := List.eq_nil_of_length_eq_zero (by omega)
    have g0 : getB viaU l = ⟨#[]⟩ := by
      unfold getB
      rw [h0]
      rfl
    rw [g0]
    apply ba_ext
    simp
theorem next_size (w : ByteArray) (ok : Bool) : (nextV w ok).size ≤ w.size + 12 := by
  have s1 : commaB.size = 2 := rfl
  have s2 : nameB.size = 10 := rfl
  unfold nextV
  split
  · rw [ByteArray.size_append, ByteArray.size_append]; omega
  · omega
theorem getB_small (n : ByteArray) (l : List S49) (h : SmallP l) : (getB n l).size ≤ 9060 := by
  have hle : (allV n l).length ≤ l.length := by
    unfold allV
    rw [List.length_map]
    exact List.length_filter_le _ _
  have := inter_len commaB.data.toList 300 ((allV n l).map (·.data.toList)) (fun x hx => by
    obtain ⟨y, hy, rfl⟩ := List.mem_map.1 hx
    unfold allV at hy
    obtain ⟨f, hf, rfl⟩ := List.mem_map.1 hy
    have := (h.2 f (List.mem_filter.1 hf).1).2
    simpa using this)
  rw [List.length_map] at this
  have h2 : (commaB.data.toList).length = 2 := rfl
  rw [h2] at this
  have h3 : (allV n l).length * (300 + 2) ≤ 30 * 302 := Nat.mul_le_mul_right _ (by have := h.1; omega)
  have h4 : (getB n l).size = (joinB (allV n l) commaB).length := by
    show (joinB (allV n l) commaB).toArray.size = _
    simp
  rw [h4]
  show (List.intercalate _ _).length ≤ _
  omega
theorem via_small (l : List S49) (h : SmallP l) (w : ByteArray) (hw : w.size ≤ 20000) : SmallF (viaL2 l ++ [⟨viaU, w⟩]) := by
  have h1 := wout_len [viaU] (stripV l)
  have h2 := wout_len (stripN l) l
  have e1 : (viaL2 l).length = (wout [viaU] (stripV l)).length := rfl
  have e2 : (stripV l).length = (wout (stripN l) l).length := rfl
  have h3 := h.1
  refine ⟨by rw [List.length_append, List.length_singleton]; omega, fun f hf => ?_⟩
  rcases List.mem_append.1 hf with hf | hf
  · have := h.2 f (wout_mem (wout_mem hf))
    omega
  · obtain rfl := List.mem_singleton.1 hf
    exact ⟨(by decide : viaU.size ≤ 200), hw⟩
theorem via_l0 (l : List S49) (h : SmallP l) (n : Int) (hn : n ≤ 10) : ∀ (d : Nat) (i : Int) (x : List S49) (w : ByteArray) (ok : Bool) (k : Nat), n = i + d → 0 ≤ i → d + 4000000 < k → w.size ≤ 9100 + 12 * i.toNat →
    (i = 0 ∧ 0 < n ∧ x = l ∧ w.toList = (getB viaU l).toList ∧ ok = decide (0 < (allV viaU l).length)) ∨ (x = viaL2 l ++ [⟨viaU, w⟩] ∧ ok = true) →
    pantrylaw13_PassVia.l0 k l w ok x n i = some true := by
  have hF := h.F
  have hlen := h.1
  intro d
  induction d with
  | zero =>
    intro i x w ok k hi h0 hk hw hs
    obtain ⟨k, rfl⟩ : ∃ j, k = j + 1 := ⟨k - 1, by omega⟩
    rcases hs with ⟨rfl, hp, _⟩ | ⟨rfl, rfl⟩
    · omega
    have sx := via_small l h w (by omega)
    have sxl := sx.1
    have g : field_List_Get.f k (viaL2 l ++ [⟨viaU, w⟩]) viaU = some (getB viaU (viaL2 l ++ [⟨viaU, w⟩]), decide (0 < (allV viaU (viaL2 l ++ [⟨viaU, w⟩])).length)) := get_eval viaU _ (by decide) sx.2 (by omega) k (by omega)
    rw [via_get, via_all] at g
    simp only [pantrylaw13_PassVia.l0]
    have g' : field_List_Get.f k (viaL2 l ++ [⟨viaU, w⟩]) (⟨#[86, 105, 97]⟩ : ByteArray) = some (w, decide (0 < [w].length)) := g
    rw [if_neg (by omega), g']
    simp only [Option.bind_some]
    have hs := SmallF_strip hF
    have hsl := hs.1
    have wo : field_List_Without.f k (stripV l) [(⟨#[86, 105, 97]⟩ : ByteArray)] = some (viaL2 l) := wout_f [viaU] (stripV l) (by decide) (by decide) (fun x hx => by have := (hs.2 x hx).1; omega) (by omega) k (by omega)
    rw [if_pos (by simp), if_pos trivial, strip_eval l hF k (by omega)]
    simp only [Option.bind_some]
    rw [wo]
    simp only [Option.bind_some]
    have hwl := wout_len [viaU] (stripV l)
    have e1 : (viaL2 l).length = (wout [viaU] (stripV l)).length := rfl
    rw [w64n (by omega) (by omega)]
    congr 1
    rw [beq_iff_eq, List.length_append, List.length_singleton]
    omega
  | succ d ih =>
    intro i x w ok k hi h0 hk hw hs
    obtain ⟨k, rfl⟩ : ∃ j, k = j + 1 := ⟨k - 1, by omega⟩
    have hns := next_size w ok
    simp only [pantrylaw13_PassVia.l0]
    rw [if_pos (by omega), next_eval w ok (by omega), w64n (by omega) (by omega)]
    have go : ∀ y, pass_Onward.f k x = some y → y = viaL2 l ++ [⟨viaU, nextV w ok⟩] → ((pass_Onward.f k x).bind fun t => (some (nextV w ok)).bind fun u => pantrylaw13_PassVia.l0 k l u true t n (i + 1)) = some true := by
      rintro y hy rfl
      rw [hy]
      simp only [Option.bind_some]
      exact ih (i + 1) _ _ true k (by omega) (by omega) (by omega) (by omega) (.inr ⟨rfl, rfl⟩)
    rcases hs with ⟨rfl, _, rfl, hg, rfl⟩ | ⟨rfl, rfl⟩
    · exact go _ (onward_eval _ hF k (by omega)) (via_onward0 _ w hg)
    · exact go _ (onward_eval _ (via_small l h w (by omega)) k (by omega)) (via_onward l w)
theorem law_PassVia (l0 : List S49) (a1 : Int) (h0 : l0.length ≤ 9223372036854775807) : ∃ k, pantrylaw13_PassVia.f k l0 a1 = some true := by
  obtain ⟨K, hK⟩ : ∃ K, l0.length + 6000000 ≤ K := ⟨_, Nat.le_refl _⟩
  refine ⟨K, ?_⟩
  obtain ⟨k, hk⟩ : ∃ j, K = j + 1 + 1 := ⟨K - 2, by omega⟩
  have jt : pantrylaw13_PassVia.j0 K l0 a1 true = some true := by rw [hk]; simp [pantrylaw13_PassVia.j0]
  unfold pantrylaw13_PassVia.f
  rw [anchor_ok _ (by omega)]
  simp only [Option.bind_some]
  rw [if_pos trivial]
  obtain ⟨b, hb, hs⟩ := small_eval l0 h0 K (by omega)
  rw [hb]
  simp only [Option.bind_some]
  cases b with
  | false => rw [if_neg (by simp)]; exact jt
  | true =>
    rw [if_pos rfl]
    have sp := hs rfl
    have sf := sp.F
    by_cases h1 : a1 < 1
    · rw [if_pos h1]; exact jt
    · rw [if_neg h1]
      by_cases h2 : a1 > 10
      · rw [decide_eq_true h2]; exact jt
      · rw [decide_eq_false h2, hk]
        simp only [pantrylaw13_PassVia.j0]
        have hst := SmallF_strip sf
        have z0 := sf.1
        have zs := hst.1
        have g1 : field_List_Get.f (k + 1) (stripV l0) (⟨#[86, 105, 97]⟩ : ByteArray) = some (getB viaU (stripV l0), decide (0 < (allV viaU (stripV l0)).length)) := get_eval viaU _ (by decide) hst.2 (by omega) (k + 1) (by omega)
        have g2 : field_List_Get.f (k + 1) l0 (⟨#[86, 105, 97]⟩ : ByteArray) = some (getB viaU l0, decide (0 < (allV viaU l0).length)) := get_eval viaU _ (by decide) sf.2 (by omega) (k + 1) (by omega)
        rw [if_neg (by simp), strip_eval l0 sf (k + 1) (by omega)]
        simp only [Option.bind_some]
        rw [g1, g2]
        simp only [Option.bind_some]
        have j1t : ∀ w ok, pantrylaw13_PassVia.j1 (k + 1) l0 a1 w ok true = some true := fun w ok => by simp [pantrylaw13_PassVia.j1]
        by_cases c1 : (decide (0 < (allV viaU l0).length) != decide (0 < (allV viaU (stripV l0)).length)) = true
        · rw [if_pos c1]; exact j1t _ _
        · rw [if_neg c1]
          by_cases c2 : ((getB viaU l0).toList != (getB viaU (stripV l0)).toList) = true
          · rw [c2]; exact j1t _ _
          · have c2' : ((getB viaU l0).toList != (getB viaU (stripV l0)).toList) = false := by simpa using c2
            rw [c2']
            simp only [pantrylaw13_PassVia.j1]
            rw [if_neg (by simp)]
            have e1 : (getB viaU (stripV l0)).toList = (getB viaU l0).toList := by simpa using (bne_eq_false_iff_eq.1 c2').symm
            have e2 : decide (0 < (allV viaU (stripV l0)).length) = decide (0 < (allV viaU l0).length) := by
              have := bne_eq_false_iff_eq.1 (by simpa using c1 : (decide (0 < (allV viaU l0).length) != decide (0 < (allV viaU (stripV l0)).length)) = false)
              exact this.symm
            have hsm := getB_small viaU l0 sp
            have hsz : (getB viaU (stripV l0)).size = (getB viaU l0).size := by
              rw [size_l, size_l, ← ByteArray.toList_eq, ← ByteArray.toList_eq, e1]
            exact via_l0 l0 sp a1 (by omega) a1.toNat 0 l0 _ _ k (by omega) (by omega) (by omega) (by omega) (.inl ⟨rfl, by omega, rfl, e1, e2⟩)

end Go.Proofs.YtcechlbeghcliaaDoor.PAll
