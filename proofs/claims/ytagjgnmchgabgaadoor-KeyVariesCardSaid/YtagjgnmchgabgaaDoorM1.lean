import Derived.Test.YtagjgnmchgabgaaDoorPAllx0
import Derived.Test.YtagjgnmchgabgaaDoorPAllx1
import Derived.Test.YtagjgnmchgabgaaDoorPAllx2
import Derived.Test.YtagjgnmchgabgaaDoorPAllx3
import Derived.Test.YtagjgnmchgabgaaDoorPAllx4
import Derived.Test.YtagjgnmchgabgaaDoorPAllx5
import Derived.Lib.Join
namespace Go.Proofs.YtagjgnmchgabgaaDoor.PAll
open Go.RowKit Go.Proofs.YtagjgnmchgabgaaDoorW.PrintWords Go.Proofs.YtagjgnmchgabgaaDoorW.PrintLast Go.Proofs.YtagjgnmchgabgaaDoorW.PrintMore
set_option linter.unusedVariables false
set_option linter.unusedSimpArgs false

theorem lowB_list (s : ByteArray) : (lowB s).data.toList = lowL s.data.toList := by simp [lowB]

theorem bt_at2 (s : ByteArray) (i : Nat) (h : i < s.data.toList.length) : bt s (i : Int) = ((s.data.toList[i]).toNat : Int) := by
  have h' : i < s.size := by simpa using h
  unfold bt
  simp only [Int.toNat_natCast]
  rw [dif_pos h']
  rfl

/-! What Without comes to (where With is not printed) -/
def isOf (ns : List ByteArray) (o : S41) : Bool := ns.any fun n => sameB n o.f0
def wout (ns : List ByteArray) (l : List S41) : List S41 := l.filter fun o => !isOf ns o
theorem w64n {x : Int} (h0 : -9223372036854775808 ≤ x) (h1 : x ≤ 9223372036854775807) : wrap64 x = x := by unfold wrap64; omega
theorem wout_l0 (ns : List ByteArray) (l : List S41) (hn : ns.length ≤ 140737488351232) (hns : ∀ x ∈ ns, x.size ≤ 140737488351232) (hl : ∀ x ∈ l, x.f0.size ≤ 140737488351232) (hlen : l.length < 4398046511104) :
    ∀ (d i : Nat) (acc : List S41) (k : Nat), i + d = l.length → acc.length ≤ i → d < k →
    field_List_Without.l0 k ns acc l (l.length : Int) (i : Int) = some (acc ++ wout ns (l.drop i)) := by
  intro d
  induction d with
  | zero =>
    intro i acc k hi ha hk
    obtain ⟨k, rfl⟩ : ∃ j, k = j + 1 := ⟨k - 1, by omega⟩
    simp only [field_List_Without.l0]
    rw [if_neg (by omega), List.drop_of_length_le (by omega)]
    simp [wout]
  | succ d ih =>
    intro i acc k hi ha hk
    obtain ⟨k, rfl⟩ : ∃ j, k = j + 1 := ⟨k - 1, by omega⟩
    have hlt : i < l.length := by omega
    have hx : rd_T41 l (i : Int) = l[i] := by simp [rd_T41, hlt]
    simp only [field_List_Without.l0]
    rw [if_pos (by omega), if_pos (by omega), if_pos (by omega), hx]
    unfold field_Field_named.f
    rw [if_pos ⟨hl _ (List.getElem_mem hlt), hn, hns⟩]
    simp only [Option.bind_some]
    rw [List.drop_eq_getElem_cons hlt, w64n (by omega) (by omega)]
    by_cases hs : isOf ns l[i] = true
    · have hs' : (ns.any fun n => sameB n l[i].f0) = true := hs
      rw [if_pos hs']
      have := ih (i + 1) acc k (by omega) (by omega) (by omega)
      rw [show ((i + 1 : Nat) : Int) = (i : Int) + 1 by omega] at this
      rw [this]
      unfold wout
      rw [List.filter_cons_of_neg (by simp [hs])]
    · have hs' : ¬ (ns.any fun n => sameB n l[i].f0) = true := hs
      rw [if_neg hs', if_pos (by omega)]
      have := ih (i + 1) (acc ++ [l[i]]) k (by omega) (by simp; omega) (by omega)
      rw [show ((i + 1 : Nat) : Int) = (i : Int) + 1 by omega] at this
      rw [this]
      unfold wout
      rw [List.filter_cons_of_pos (by simp [hs]), List.append_assoc]
      rfl
theorem wout_f (ns : List ByteArray) (l : List S41) (hn : ns.length ≤ 140737488351232) (hns : ∀ x ∈ ns, x.size ≤ 140737488351232) (hl : ∀ x ∈ l, x.f0.size ≤ 140737488351232) (hlen : l.length < 4398046511104) (k : Nat) (hk : l.length < k) :
    field_List_Without.f k l ns = some (wout ns l) := by
  unfold field_List_Without.f
  have := wout_l0 ns l hn hns hl hlen l.length 0 [] k (by omega) (by simp) hk
  simpa using this

/-! ## Fields, as lists -/
theorem rd39 (l : List S41) (i : Nat) (h : i < l.length) : rd_T41 l (i : Int) = l[i] := by simp [rd_T41, h]
theorem rdB (l : List ByteArray) (i : Nat) (h : i < l.length) : rdOf ByteArray.empty l (i : Int) = l[i] := by simp [rdOf, h]
def SmallF (l : List S41) : Prop := l.length ≤ 70 ∧ ∀ f ∈ l, f.f0.size ≤ 200 ∧ f.f1.size ≤ 1100
def SmallP (l : List S41) : Prop := l.length ≤ 30 ∧ ∀ f ∈ l, f.f0.size ≤ 100 ∧ f.f1.size ≤ 300
theorem SmallP.F {l : List S41} (h : SmallP l) : SmallF l := ⟨by have := h.1; omega, fun f hf => by have := h.2 f hf; omega⟩

theorem small_l0 (l : List S41) (hl : l.length ≤ 9223372036854775807) : ∀ (d i k : Nat), i + d = l.length → d < k →
    ∃ b, pantrylaw11_small.l0 k l l (l.length : Int) (i : Int) = some b ∧ (b = true → l.length ≤ 30 ∧ ∀ f ∈ l.drop i, f.f0.size ≤ 100 ∧ f.f1.size ≤ 300) := by
  intro d
  induction d with
  | zero =>
    intro i k hi hk
    obtain ⟨k, rfl⟩ : ∃ j, k = j + 1 := ⟨k - 1, by omega⟩
    simp only [pantrylaw11_small.l0]
    rw [if_neg (by omega)]
    refine ⟨_, rfl, fun h => ?_⟩
    have := of_decide_eq_true h
    rw [List.drop_of_length_le (by omega)]
    exact ⟨by omega, fun f hf => by cases hf⟩
  | succ d ih =>
    intro i k hi hk
    obtain ⟨k, rfl⟩ : ∃ j, k = j + 1 := ⟨k - 1, by omega⟩
    have hlt : i < l.length := by omega
    simp only [pantrylaw11_small.l0]
    rw [if_pos (by omega), if_pos (by omega), if_pos (by omega), rd39 l i hlt]
    by_cases h1 : ((l[i].f0).size : Int) > 100
    · rw [if_pos h1]; exact ⟨false, rfl, fun h => by cases h⟩
    · rw [if_neg h1]
      by_cases h2 : ((l[i].f1).size : Int) > 300
      · rw [if_pos h2]; exact ⟨false, rfl, fun h => by cases h⟩
      · rw [if_neg h2, w64n (by omega) (by omega)]
        obtain ⟨b, hb, hs⟩ := ih (i + 1) k (by omega) (by omega)
        refine ⟨b, hb, fun h => ?_⟩
        obtain ⟨h3, h4⟩ := hs h
        refine ⟨h3, fun f hf => ?_⟩
        rw [List.drop_eq_getElem_cons hlt] at hf
        rcases List.mem_cons.1 hf with rfl | hf
        · exact ⟨by omega, by omega⟩
        · exact h4 f hf
theorem small_eval (l : List S41) (hl : l.length ≤ 9223372036854775807) (k : Nat) (hk : l.length < k) : ∃ b, pantrylaw11_small.f k l = some b ∧ (b = true → SmallP l) := by
  obtain ⟨b, hb, hs⟩ := small_l0 l hl l.length 0 k (by omega) hk
  exact ⟨b, hb, fun h => by simpa [SmallP] using hs h⟩

/-! ## All, Get, Same -/
def allV (n : ByteArray) (l : List S41) : List ByteArray := (l.filter (isOf [n])).map (·.f1)
theorem all_l0 (n : ByteArray) (l : List S41) (hn : n.size ≤ 140737488351232) (hl : ∀ x ∈ l, x.f0.size ≤ 140737488351232) (hlen : l.length < 4398046511104) :
    ∀ (d i : Nat) (acc : List ByteArray) (k : Nat), i + d = l.length → acc.length ≤ i → d < k →
    field_List_All.l0 k n acc l (l.length : Int) (i : Int) = some (acc ++ allV n (l.drop i)) := by
  intro d
  induction d with
  | zero =>
    intro i acc k hi ha hk
    obtain ⟨k, rfl⟩ : ∃ j, k = j + 1 := ⟨k - 1, by omega⟩
    simp only [field_List_All.l0]
    rw [if_neg (by omega), List.drop_of_length_le (by omega)]
    simp [allV]
  | succ d ih =>
    intro i acc k hi ha hk
    obtain ⟨k, rfl⟩ : ∃ j, k = j + 1 := ⟨k - 1, by omega⟩
    have hlt : i < l.length := by omega
    simp only [field_List_All.l0]
    rw [if_pos (by omega), if_pos (by omega), if_pos (by omega), rd39 l i hlt]
    unfold field_Field_named.f
    rw [if_pos ⟨hl _ (List.getElem_mem hlt), by simp, by simpa using hn⟩]
    simp only [Option.bind_some]
    rw [List.drop_eq_getElem_cons hlt, w64n (by omega) (by omega)]
    by_cases hs : isOf [n] l[i] = true
    · have hs' : ([n].any fun n => sameB n l[i].f0) = true := hs
      rw [if_pos hs', if_pos (by omega)]
      have := ih (i + 1) (acc ++ [l[i].f1]) k (by omega) (by simp; omega) (by omega)
      rw [show ((i + 1 : Nat) : Int) = (i : Int) + 1 by omega] at this
      rw [this]
      unfold allV
      rw [List.filter_cons_of_pos hs, List.append_assoc]
      rfl
    · have hs' : ¬ ([n].any fun n => sameB n l[i].f0) = true := hs
      rw [if_neg hs']
      have := ih (i + 1) acc k (by omega) (by omega) (by omega)
      rw [show ((i + 1 : Nat) : Int) = (i : Int) + 1 by omega] at this
      rw [this]
      unfold allV
      rw [List.filter_cons_of_neg hs]
theorem all_eval (n : ByteArray) (l : List S41) (hn : n.size ≤ 140737488351232) (hl : ∀ x ∈ l, x.f0.size ≤ 140737488351232) (hlen : l.length < 4398046511104) (k : Nat) (hk : l.length < k) : field_List_All.f k l n = some (allV n l) := by
  unfold field_List_All.f
  have := all_l0 n l hn hl hlen l.length 0 [] k (by omega) (by simp) hk
  simpa using this
theorem inter_len (sep : List UInt8) (M : Nat) : ∀ (xs : List (List UInt8)), (∀ x ∈ xs, x.length ≤ M) → (sep.intercalate xs).length ≤ xs.length * (M + sep.length) := by
  intro xs
  induction xs with
  | nil => intro _; simp [List.intercalate]
  | cons x xs ih =>
    intro h
    have h1 := h x (by simp)
    have h2 := ih (fun y hy => h y (by simp [hy]))
    cases xs with
    | nil => simp [List.intercalate]; omega
    | cons y ys =>
      have e : sep.intercalate (x :: y :: ys) = x ++ (sep ++ sep.intercalate (y :: ys)) := by simp [List.intercalate]
      rw [e]
      simp only [List.length_append, List.length_cons, Nat.add_mul, Nat.one_mul] at *
      omega
theorem get_eval (n : ByteArray) (l : List S41) (hn : n.size ≤ 140737488351232) (hs : ∀ x ∈ l, x.f0.size ≤ 200 ∧ x.f1.size ≤ 1100) (hlen : l.length ≤ 1000000) (k : Nat) (hk : l.length < k) :
    field_List_Get.f k l n = some (⟨(joinB (allV n l) ⟨#[44, 32]⟩).toArray⟩, decide (0 < (allV n l).length)) := by
  unfold field_List_Get.f
  rw [all_eval n l hn (fun x hx => by have := (hs x hx).1; omega) (by omega) k hk]
  simp only [Option.bind_some]
  have hle : (allV n l).length ≤ l.length := by
    unfold allV
    rw [List.length_map]
    exact List.length_filter_le _ _
  have hok : joinOk (allV n l) ⟨#[44, 32]⟩ := by
    refine ⟨by omega, ?_⟩
    unfold joinB Lib.join
    have := inter_len (⟨#[44, 32]⟩ : ByteArray).data.toList 1100 ((allV n l).map (·.data.toList)) (fun x hx => by
      obtain ⟨y, hy, rfl⟩ := List.mem_map.1 hx
      unfold allV at hy
      obtain ⟨f, hf, rfl⟩ := List.mem_map.1 hy
      have := (hs f (List.mem_filter.1 hf).1).2
      simpa using this)
    rw [List.length_map] at this
    have h2 : ((⟨#[44, 32]⟩ : ByteArray).data.toList).length = 2 := rfl
    rw [h2] at this
    have : (allV n l).length * (1100 + 2) ≤ 1000000 * 1102 := Nat.mul_le_mul_right _ (by omega)
    omega
  unfold strings_Join.f
  rw [if_pos hok]
  simp only [Option.bind_some]
  congr 2
  rw [decide_eq_decide]
  omega

/-! ## FieldParts -/
theorem inter_app (sep : List UInt8) : ∀ (A B : List (List UInt8)), A ≠ [] → B ≠ [] → sep.intercalate (A ++ B) = sep.intercalate A ++ (sep ++ sep.intercalate B) := by
  intro A
  induction A with
  | nil => intro B h; exact absurd rfl h
  | cons x A ih =>
    intro B _ hB
    cases A with
    | nil =>
      cases B with
      | nil => exact absurd rfl hB
      | cons y ys => simp [List.intercalate]
    | cons z A =>
      have := ih B (by simp) hB
      have e1 : sep.intercalate (x :: z :: A) = x ++ (sep ++ sep.intercalate (z :: A)) := by simp [List.intercalate]
      have e2 : sep.intercalate (x :: z :: A ++ B) = x ++ (sep ++ sep.intercalate (z :: A ++ B)) := by simp [List.intercalate]
      rw [e1, e2, this]
      simp
def commaB : ByteArray := ⟨#[44, 32]⟩
def getB (n : ByteArray) (l : List S41) : ByteArray := ⟨(joinB (allV n l) commaB).toArray⟩
theorem getB_list (n : ByteArray) (l : List S41) : (getB n l).toList = joinB (allV n l) commaB := by
  rw [ByteArray.toList_eq]
  simp [getB]
theorem allV_app (n : ByteArray) (a b : List S41) : allV n (a ++ b) = allV n a ++ allV n b := by
  unfold allV
  rw [List.filter_append, List.map_append]
theorem joinB_app (A B : List ByteArray) (hA : A ≠ []) (hB : B ≠ []) : joinB (A ++ B) commaB = joinB A commaB ++ ([44, 32] ++ joinB B commaB) := by
  unfold joinB Lib.join
  rw [List.map_append]
  exact inter_app _ _ _ (by simpa using hA) (by simpa using hB)
theorem getB_size (n : ByteArray) (l : List S41) (h : SmallF l) : (getB n l).size ≤ 80000 := by
  have hle : (allV n l).length ≤ l.length := by
    unfold allV
    rw [List.length_map]
    exact List.length_filter_le _ _
  have := inter_len commaB.data.toList 1100 ((allV n l).map (·.data.toList)) (fun x hx => by
    obtain ⟨y, hy, rfl⟩ := List.mem_map.1 hx
    unfold allV at hy
    obtain ⟨f, hf, rfl⟩ := List.mem_map.1 hy
    have := (h.2 f (List.mem_filter.1 hf).1).2
    simpa using this)
  rw [List.length_map] at this
  have h2 : (commaB.data.toList).length = 2 := rfl
  rw [h2] at this
  have h3 : (allV n l).length * (1100 + 2) ≤ 70 * 1102 := Nat.mul_le_mul_right _ (by have := h.1; omega)
  have h4 : (getB n l).size = (joinB (allV n l) commaB).length := by
    show (joinB (allV n l) commaB).toArray.size = _
    simp
  rw [h4]
  show (List.intercalate _ _).length ≤ _
  omega

/-! ## Lists of elements -/
def endL : Bool → List UInt8 → Nat
  | _, [] => 0
  | q, [c] => if c = 34 then 1 else if q = true ∧ c = 92 then 1 else if q = false ∧ c = 44 then 0 else 1
  | q, c :: d :: l => if c = 34 then 1 + endL (!q) (d :: l) else if q = true ∧ c = 92 then 2 + endL q l else if q = false ∧ c = 44 then 0 else 1 + endL q (d :: l)
theorem endL_le : ∀ (n : Nat) (l : List UInt8) (q : Bool), l.length ≤ n → endL q l ≤ l.length := by
  intro n
  induction n with
  | zero =>
    intro l q h
    obtain rfl := List.eq_nil_of_length_eq_zero (by omega : l.length = 0)
    simp [endL]
  | succ n ih =>
    intro l q h
    match l, h with
    | [], _ => simp [endL]
    | [c], _ =>
      unfold endL
      simp only [List.length_cons, List.length_nil]
      split
      · omega
      · split
        · omega
        · split <;> omega
    | c :: d :: l, h =>
      simp only [List.length_cons] at h
      have h1 := ih (d :: l) (!q) (by simp; omega)
      have h2 := ih l q (by omega)
      have h3 := ih (d :: l) q (by simp; omega)
      unfold endL
      simp only [List.length_cons] at *
      split
      · omega
      · split
        · omega
        · split <;> omega
theorem u8_eq (c d : UInt8) : ((c.toNat : Int) = (d.toNat : Int)) ↔ c = d := by
  constructor
  · intro h
    exact UInt8.toNat_inj.1 (by omega)
  · rintro rfl; rfl
theorem end_past (s : ByteArray) (q : Bool) (i : Nat) (h : s.size ≤ i) (k : Nat) (hk : 0 < k) : sign_end.l0 k s q (i : Int) = some (s.size : Int) := by
  obtain ⟨k, rfl⟩ : ∃ j, k = j + 1 := ⟨k - 1, by omega⟩
  simp only [sign_end.l0]
  rw [if_neg (by omega)]
theorem end_l0 (s : ByteArray) (hs : s.size ≤ 1000000000) : ∀ (d i k : Nat) (q : Bool), i + d = s.size → 2 * d + 1 < k → sign_end.l0 k s q (i : Int) = some ((i + endL q (s.data.toList.drop i) : Nat) : Int) := by
  intro d
  induction d using Nat.strongRecOn with
  | _ d ih =>
    intro i k q hi hk
    have hz : s.data.toList.length = s.size := by simp
    cases d with
    | zero =>
      rw [end_past s q i (by omega) k (by omega), List.drop_of_length_le (by omega)]
      simp only [endL]
      congr 2
      omega
    | succ d =>
      obtain ⟨k, rfl⟩ : ∃ j, k = j + 1 := ⟨k - 1, by omega⟩
      have hlt : i < s.data.toList.length := by omega
      have n1 : ∀ (kk : Nat), 2 * d + 1 < kk → ∀ (q : Bool), sign_end.l0 kk s q ((i : Int) + 1) = some ((i + 1 + endL q (s.data.toList.drop (i + 1)) : Nat) : Int) := fun kk hkk q => by
        have := ih d (by omega) (i + 1) kk q (by omega) hkk
        rwa [show ((i + 1 : Nat) : Int) = (i : Int) + 1 by omega] at this
      have n2 : d = 0 ∨ 0 < d ∧ ∀ (kk : Nat), 2 * d < kk → ∀ (q : Bool), sign_end.l0 kk s q ((i : Int) + 1 + 1) = some ((i + 2 + endL q (s.data.toList.drop (i + 2)) : Nat) : Int) := by
        rcases Nat.eq_zero_or_pos d with h | h
        · exact .inl h
        · refine .inr ⟨h, fun kk hkk q => ?_⟩
          have := ih (d - 1) (by omega) (i + 2) kk q (by omega) (by omega)
          rwa [show ((i + 2 : Nat) : Int) = (i : Int) + 1 + 1 by omega] at this
      simp only [sign_end.l0]
      have hbt := bt_at2 s i hlt
      rw [if_pos (by omega), if_pos (by omega), hbt, w64n (by omega) (by omega)]
      rw [List.drop_eq_getElem_cons hlt]
      have e34 : ((s.data.toList[i]).toNat : Int) = 34 ↔ s.data.toList[i] = 34 := u8_eq _ 34
      have e92 : ((s.data.toList[i]).toNat : Int) = 92 ↔ s.data.toList[i] = 92 := u8_eq _ 92
      have e44 : ((s.data.toList[i]).toNat : Int) = 44 ↔ s.data.toList[i] = 44 := u8_eq _ 44
      generalize s.data.toList[i] = c at *
      have hstep : ∀ (q q' : Bool), endL q (c :: s.data.toList.drop (i + 1)) = 1 + endL q' (s.data.toList.drop (i + 1)) → some ((i + 1 + endL q' (s.data.toList.drop (i + 1)) : Nat) : Int) = some ((i + endL q (c :: s.data.toList.drop (i + 1)) : Nat) : Int) := by
        intro q q' h
        rw [h]
        congr 2
        omega
      by_cases h1 : c = 34
      · rw [if_pos (e34.2 h1), n1 _ (by omega)]
        refine hstep _ _ ?_
        subst h1
        cases s.data.toList.drop (i + 1) <;> simp [endL]
      · rw [if_neg (fun h => h1 (e34.1 h))]
        cases q with
        | true =>
          rw [if_pos rfl]
          obtain ⟨k, rfl⟩ : ∃ j, k = j + 1 := ⟨k - 1, by omega⟩
          simp only [sign_end.j1]
          by_cases h2 : c = 92
          · have hb : (((c.toNat : Int)) == 92) = true := beq_iff_eq.2 (e92.2 h2)
            rw [hb, if_pos rfl, w64n (x := (i : Int) + 1) (by omega) (by omega), w64n (by omega) (by omega)]
            rcases n2 with rfl | ⟨hd0, n2⟩
            · have := end_past s true (i + 2) (by omega) k (by omega)
              rw [show ((i + 2 : Nat) : Int) = (i : Int) + 1 + 1 by omega] at this
              rw [this, List.drop_of_length_le (by omega)]
              subst h2
              have e1 : endL true [(92 : UInt8)] = 1 := by decide
              rw [e1]
              exact congrArg some (by omega)
            · rw [n2 _ (by omega)]
              subst h2
              cases hd : s.data.toList.drop (i + 1) with
              | nil =>
                have := congrArg List.length hd
                rw [List.length_drop] at this
                simp only [List.length_nil] at this
                omega
              | cons x l =>
                have e2 : s.data.toList.drop (i + 2) = l := by
                  have := congrArg (List.drop 1) hd
                  rw [List.drop_drop] at this
                  simpa using this
                rw [e2]
                have e1 : endL true ((92 : UInt8) :: x :: l) = 2 + endL true l := by simp [endL]
                rw [e1]
                exact congrArg some (by omega)
          · have hb : (((c.toNat : Int)) == 92) = false := beq_eq_false_iff_ne.2 (fun h => h2 (e92.1 h))
            rw [hb, if_neg (by simp), if_pos trivial, w64n (by omega) (by omega), n1 _ (by omega)]
            refine hstep _ _ ?_
            cases s.data.toList.drop (i + 1) <;> simp [endL, h1, h2]
        | false =>
          rw [if_neg (by simp)]
          obtain ⟨k, rfl⟩ : ∃ j, k = j + 1 := ⟨k - 1, by omega⟩
          simp only [sign_end.j1]
          rw [if_neg (by simp), if_neg (by simp), if_pos (by omega), if_pos (by omega), hbt]
          by_cases h3 : c = 44
          · rw [if_pos (e44.2 h3)]
            subst h3
            cases s.data.toList.drop (i + 1) <;> simp [endL]
          · rw [if_neg (fun h => h3 (e44.1 h)), w64n (by omega) (by omega), n1 _ (by omega)]
            refine hstep _ _ ?_
            cases s.data.toList.drop (i + 1) <;> simp [endL, h1, h3]

def toB (l : List UInt8) : ByteArray := ⟨l.toArray⟩
theorem toB_list (l : List UInt8) : (toB l).data.toList = l := by simp [toB]
theorem of_list (s : ByteArray) : toB s.data.toList = s := by cases s; simp [toB]
theorem size_l (s : ByteArray) : s.size = s.data.toList.length := by simp
theorem ext_l (s : ByteArray) (a b : Nat) : (s.extract a b).data.toList = (s.data.toList.drop a).take (b - a) := by
  rw [ByteArray.data_extract, Array.toList_extract]
def trimL (l : List UInt8) : List UInt8 := Lib.trimS l [32, 9]
theorem dropWhile_len {α : Type} (p : α → Bool) (l : List α) : (l.dropWhile p).length ≤ l.length := (List.dropWhile_sublist p).length_le
theorem trimL_len (l : List UInt8) : (trimL l).length ≤ l.length := by
  unfold trimL Lib.trimS Lib.trimLeftS Lib.trimRightS
  refine Nat.le_trans (dropWhile_len _ _) ?_
  rw [List.length_reverse]
  refine Nat.le_trans (dropWhile_len _ _) ?_
  rw [List.length_reverse]
  exact Nat.le_refl _
theorem trim_eval (s : ByteArray) (hs : s.size ≤ 9223372036854775807) : sign_Trim.f s = some (toB (trimL s.data.toList)) := by
  unfold sign_Trim.f strings_Trim.f
  rw [if_pos ⟨hs, by decide, by decide⟩]
  rfl
def listL : Nat → List UInt8 → List (List UInt8)
  | 0, _ => []
  | k + 1, l => if l = [] then [] else (if trimL (l.take (endL false l)) = [] then [] else [trimL (l.take (endL false l))]) ++ listL k (l.drop (endL false l + 1))
theorem list_l0 : ∀ (n : Nat) (s : ByteArray) (acc : List ByteArray) (k : Nat), s.size ≤ n → n ≤ 1000000000 → acc.length + s.size ≤ 1000000000 → 3 * n + 10 < k →
    sign_List.l0 k s acc = some (acc ++ (listL (n + 1) s.data.toList).map toB) := by
  intro n
  induction n with
  | zero =>
    intro s acc k h0 h1 h2 hk
    obtain ⟨k, rfl⟩ : ∃ j, k = j + 1 := ⟨k - 1, by omega⟩
    have hnil : s.data.toList = [] := List.eq_nil_of_length_eq_zero (by rw [← size_l]; omega)
    simp only [sign_List.l0]
    rw [ByteArray.toList_eq, hnil, if_pos rfl]
    simp [listL]
  | succ n ih =>
    intro s acc k h0 h1 h2 hk
    obtain ⟨k, rfl⟩ : ∃ j, k = j + 1 := ⟨k - 1, by omega⟩
    simp only [sign_List.l0]
    rw [ByteArray.toList_eq]
    by_cases hnil : s.data.toList = []
    · rw [if_pos hnil, hnil]
      simp [listL]
    · rw [if_neg hnil]
      have hpos : 0 < s.size := by
        rw [size_l]
        exact List.length_pos_iff.2 hnil
      have he : sign_end.f k s = some ((endL false s.data.toList : Nat) : Int) := by
        unfold sign_end.f
        have := end_l0 s (by omega) s.size 0 k false (by omega) (by omega)
        rw [List.drop_zero, Nat.zero_add] at this
        exact this
      have hle := endL_le s.data.toList.length s.data.toList false (Nat.le_refl _)
      rw [← size_l] at hle
      rw [he]
      simp only [Option.bind_some]
      rw [listL, if_neg hnil]
      generalize hE : endL false s.data.toList = E at *
      rw [if_pos (by omega), if_pos (by omega), trim_eval _ (by rw [ByteArray.size_extract]; omega)]
      simp only [Option.bind_some]
      rw [ByteArray.toList_eq, toB_list, ext_l, Int.toNat_natCast, List.drop_zero, Nat.sub_zero]
      have hmn : mn (wrap64 ((E : Int) + 1)) (s.size : Int) = ((min (E + 1) s.size : Nat) : Int) := by
        rw [w64n (by omega) (by omega)]
        unfold mn
        split <;> omega
      rw [hmn, Int.toNat_natCast]
      have hsz : (s.extract (min (E + 1) s.size) s.size).size ≤ n := by rw [ByteArray.size_extract]; omega
      have hdl : (s.extract (min (E + 1) s.size) s.size).data.toList = s.data.toList.drop (E + 1) := by
        rw [ext_l]
        have hz := size_l s
        by_cases hc : E + 1 ≤ s.size
        · rw [Nat.min_eq_left hc]
          exact List.take_of_length_le (by rw [List.length_drop]; omega)
        · rw [List.drop_of_length_le (l := s.data.toList) (i := E + 1) (by omega), List.drop_of_length_le (by omega)]
          exact List.take_nil
      have hsz2 : (s.extract (min (E + 1) s.size) s.size).size ≤ s.size - 1 := by rw [ByteArray.size_extract]; omega
      by_cases ht : trimL (s.data.toList.take E) = []
      · rw [if_pos ht, if_pos ht, if_pos (by omega), if_pos (by omega), List.nil_append]
        rw [ih _ acc k hsz (by omega) (by omega) (by omega), hdl]
      · rw [if_neg ht, if_neg ht, if_pos (by omega), if_pos (by omega), if_pos (by omega)]
        rw [ih _ (acc ++ [toB (trimL (s.data.toList.take E))]) k hsz (by omega) (by simp; omega) (by omega), hdl]
        simp
theorem list_eval (s : ByteArray) (hs : s.size ≤ 1000000) (k : Nat) (hk : 3000100 < k) : sign_List.f k s = some ((listL (s.size + 1) s.data.toList).map toB) := by
  unfold sign_List.f
  have := list_l0 s.size s [] k (Nat.le_refl _) (by omega) (by simp; omega) (by omega)
  simpa using this
theorem listL_len : ∀ (n : Nat) (l : List UInt8), (listL n l).length ≤ n ∧ ∀ x ∈ listL n l, x.length ≤ l.length := by
  intro n
  induction n with
  | zero => intro l; simp [listL]
  | succ n ih =>
    intro l
    rw [listL]
    by_cases h : l = []
    · rw [if_pos h]; simp
    · rw [if_neg h]
      obtain ⟨i1, i2⟩ := ih (l.drop (endL false l + 1))
      have hd : (l.drop (endL false l + 1)).length ≤ l.length := by rw [List.length_drop]; omega
      by_cases ht : trimL (l.take (endL false l)) = []
      · rw [if_pos ht, List.nil_append]
        exact ⟨by omega, fun x hx => Nat.le_trans (i2 x hx) hd⟩
      · rw [if_neg ht]
        refine ⟨by simp; omega, fun x hx => ?_⟩
        rcases List.mem_append.1 hx with hx | hx
        · obtain rfl := List.mem_singleton.1 hx
          refine Nat.le_trans (trimL_len _) ?_
          rw [List.length_take]
          omega
        · exact Nat.le_trans (i2 x hx) hd
def elemsB (n : ByteArray) (l : List S41) : List ByteArray := (listL ((getB n l).size + 1) (getB n l).data.toList).map toB
theorem elems_eval (n : ByteArray) (l : List S41) (hn : n.size ≤ 1000) (h : SmallF l) (k : Nat) (hk : 3000100 < k) : field_List_Elements.f k l n = some (elemsB n l) := by
  unfold field_List_Elements.f
  have g : field_List_Get.f k l n = some (getB n l, decide (0 < (allV n l).length)) := get_eval n l (by omega) h.2 (by have := h.1; omega) k (by have := h.1; omega)
  rw [g]
  simp only [Option.bind_some]
  have := getB_size n l h
  rw [list_eval _ (by omega) k hk]
  rfl
theorem elems_ok (n : ByteArray) (l : List S41) (h : SmallF l) : (elemsB n l).length ≤ 100000 ∧ ∀ x ∈ elemsB n l, x.size ≤ 80000 := by
  have hg := getB_size n l h
  obtain ⟨i1, i2⟩ := listL_len ((getB n l).size + 1) (getB n l).data.toList
  unfold elemsB
  refine ⟨by rw [List.length_map]; omega, fun x hx => ?_⟩
  obtain ⟨y, hy, rfl⟩ := List.mem_map.1 hx
  have := i2 y hy
  rw [← size_l] at this
  rw [size_l, toB_list]
  omega

/-! Small letters of small letters -/
theorem lowU_idem (c : UInt8) : lowU (lowU c) = lowU c := by
  unfold lowU
  by_cases h : 65 ≤ c.toNat ∧ c.toNat ≤ 90
  · rw [if_pos h]
    have e : (UInt8.ofNat (c.toNat + 32)).toNat = c.toNat + 32 := by simp; omega
    rw [if_neg (by rw [e]; omega)]
  · rw [if_neg h, if_neg h]
theorem lowL_idem (l : List UInt8) : lowL (lowL l) = lowL l := by
  unfold lowL
  rw [List.map_map]
  exact List.map_congr_left fun c _ => lowU_idem c
theorem lowB_size (s : ByteArray) : (lowB s).size = s.size := by
  rw [size_l, size_l, lowB_list]
  simp [lowL]
theorem sameB_low (a b : ByteArray) : sameB (lowB a) b = sameB a b := by
  unfold sameB
  rw [lowB_list, lowL_idem]
theorem sameB_low2 (a b : ByteArray) : sameB a (lowB b) = sameB a b := by
  unfold sameB
  rw [lowB_list, lowL_idem]

/-! ## Strip -/
theorem isOf_append (A B : List ByteArray) (f : S41) : isOf (A ++ B) f = (isOf A f || isOf B f) := by unfold isOf; rw [List.any_append]
theorem isOf_low (n : ByteArray) : isOf [lowB n] = isOf [n] := by
  funext o
  unfold isOf
  simp only [List.any_cons, List.any_nil, Bool.or_false]
  exact sameB_low n o.f0
theorem isOf_map_low (ns : List ByteArray) (f : S41) : isOf (ns.map lowB) f = isOf ns f := by
  unfold isOf
  rw [List.any_map]
  congr 1
  funext n
  exact sameB_low n f.f0
theorem wout_congr {A B : List ByteArray} (h : ∀ f, isOf A f = isOf B f) (l : List S41) : wout A l = wout B l := by
  unfold wout
  apply List.filter_congr
  intro x _
  rw [h]
theorem wout_len (ns : List ByteArray) (l : List S41) : (wout ns l).length ≤ l.length := List.length_filter_le _ _
theorem wout_mem {ns : List ByteArray} {l : List S41} {x : S41} (h : x ∈ wout ns l) : x ∈ l := (List.mem_filter.1 h).1
theorem wout_not {ns : List ByteArray} {l : List S41} {x : S41} (h : x ∈ wout ns l) : isOf ns x = false := by
  have := (List.mem_filter.1 h).2
  simpa using this
theorem wout_all {ns : List ByteArray} {l : List S41} (h : ∀ x ∈ l, isOf ns x = false) : wout ns l = l := List.filter_eq_self.2 fun x hx => by rw [h x hx]; rfl
theorem wout_wout (A B : List ByteArray) (l : List S41) : wout B (wout A l) = wout (A ++ B) l := by
  unfold wout
  rw [List.filter_filter]
  apply List.filter_congr
  intro x _
  rw [isOf_append, Bool.not_or, Bool.and_comm]
theorem SmallF_wout {l : List S41} (h : SmallF l) (ns : List ByteArray) : SmallF (wout ns l) := ⟨by have := wout_len ns l; have := h.1; omega, fun f hf => h.2 f (wout_mem hf)⟩

/-! ## How a text is marked: its length, a colon, itself -/
theorem u8val (n : Nat) (h : n < 256) : (UInt8.ofNat n).toNat = n := by simp [Nat.mod_eq_of_lt h]
theorem decD_ok (u : Nat) : ∀ c ∈ Lib.decDigits u, 48 ≤ c.toNat ∧ c.toNat ≤ 57 := by
  induction u using Nat.strongRecOn with
  | _ u ih =>
    intro c hc
    rw [Lib.decDigits] at hc
    split at hc
    · obtain rfl := List.mem_singleton.1 hc
      rw [u8val _ (by omega)]
      omega
    · rcases List.mem_append.1 hc with hc | hc
      · exact ih (u / 10) (by omega) c hc
      · obtain rfl := List.mem_singleton.1 hc
        rw [u8val _ (by omega)]
        omega
def valD (l : List UInt8) : Nat := l.foldl (fun a c => 10 * a + (c.toNat - 48)) 0
theorem valD_dec (u : Nat) : valD (Lib.decDigits u) = u := by
  induction u using Nat.strongRecOn with
  | _ u ih =>
    rw [Lib.decDigits]
    split
    · simp only [valD, List.foldl_cons, List.foldl_nil]
      rw [u8val _ (by omega)]
      omega
    · have h := ih (u / 10) (by omega)
      unfold valD at h ⊢
      rw [List.foldl_append, h]
      simp only [List.foldl_cons, List.foldl_nil]
      rw [u8val _ (by omega)]
      omega
/-- What stands ahead of the first colon. -/
theorem colon_split : ∀ (a b s t : List UInt8), (∀ c ∈ a, c ≠ 58) → (∀ c ∈ b, c ≠ 58) → a ++ 58 :: s = b ++ 58 :: t → a = b ∧ s = t := by
  intro a
  induction a with
  | nil =>
    intro b s t _ hb h
    cases b with
    | nil => simpa using h
    | cons d b =>
      simp only [List.nil_append, List.cons_append, List.cons.injEq] at h
      exact absurd h.1.symm (hb d (by simp))
  | cons c a ih =>
    intro b s t ha hb h
    cases b with
    | nil =>
      simp only [List.nil_append, List.cons_append, List.cons.injEq] at h
      exact absurd h.1 (ha c (by simp))
    | cons d b =>
      simp only [List.cons_append, List.cons.injEq] at h
      obtain ⟨e, f⟩ := ih b s t (fun x hx => ha x (by simp [hx])) (fun x hx => hb x (by simp [hx])) h.2
      exact ⟨by rw [h.1, e], f⟩
theorem not_colon (u : Nat) : ∀ c ∈ Lib.decDigits u, c ≠ 58 := by
  rintro c hc rfl
  have := decD_ok u 58 hc
  simp at this
theorem markB_inj {s t r q : List UInt8} (h : markB s ++ r = markB t ++ q) : s = t ∧ r = q := by
  simp only [markB, List.append_assoc, List.cons_append] at h
  obtain ⟨h1, h2⟩ := colon_split _ _ _ _ (not_colon _) (not_colon _) h
  have hl : s.length = t.length := by rw [← valD_dec s.length, ← valD_dec t.length, h1]
  exact List.append_inj h2 hl
def encO : Option (List UInt8) → List UInt8
  | none => [45]
  | some s => 61 :: markB s
theorem encO_inj {s t : Option (List UInt8)} {r q : List UInt8} (h : encO s ++ r = encO t ++ q) : s = t ∧ r = q := by
  cases s with
  | none =>
    cases t with
    | none => exact ⟨rfl, by simpa [encO] using h⟩
    | some t => simp [encO] at h
  | some s =>
    cases t with
    | none => simp [encO] at h
    | some t =>
      simp only [encO, List.cons_append, List.cons.injEq, true_and] at h
      obtain ⟨rfl, e⟩ := markB_inj h
      exact ⟨rfl, e⟩
def encL {α : Type} (f : α → Option (List UInt8)) (l : List α) : List UInt8 := (l.map fun n => encO (f n)).flatten
theorem encL_nil {α : Type} (f : α → Option (List UInt8)) : encL f [] = [] := rfl
theorem encL_cons {α : Type} (f : α → Option (List UInt8)) (n : α) (l : List α) : encL f (n :: l) = encO (f n) ++ encL f l := by simp [encL]
theorem encL_inj {α : Type} (f g : α → Option (List UInt8)) : ∀ (l : List α) (r q : List UInt8), encL f l ++ r = encL g l ++ q → (∀ n ∈ l, f n = g n) ∧ r = q := by
  intro l
  induction l with
  | nil => intro r q h; exact ⟨by simp, by simpa [encL] using h⟩
  | cons n l ih =>
    intro r q h
    rw [encL_cons, encL_cons, List.append_assoc, List.append_assoc] at h
    obtain ⟨e, h2⟩ := encO_inj h
    obtain ⟨i, e2⟩ := ih r q h2
    exact ⟨fun m hm => by rcases List.mem_cons.1 hm with rfl | hm; exact e; exact i m hm, e2⟩
theorem encL_congr {α : Type} {f g : α → Option (List UInt8)} {l : List α} (h : ∀ n ∈ l, f n = g n) : encL f l = encL g l := by
  unfold encL
  rw [List.map_congr_left (fun n hn => by rw [h n hn])]
theorem encL_eq_iff {α : Type} (f g : α → Option (List UInt8)) (l : List α) : encL f l = encL g l ↔ ∀ n ∈ l, f n = g n :=
  ⟨fun h => (encL_inj f g l [] [] (by simpa using h)).1, encL_congr⟩

/-! ## The second key, by what each name has -/
def optV (l : List S41) (n : ByteArray) : Option (List UInt8) := if 0 < (allV n l).length then some (getB n l).data.toList else none
theorem getB_none (l : List S41) (n : ByteArray) (h : (allV n l).length = 0) : (getB n l).data.toList = [] := by
  have : allV n l = [] := List.eq_nil_of_length_eq_zero h
  simp [getB, this, joinB, Lib.join]
theorem getd_eval (n : ByteArray) (l : List S41) (hn : n.size ≤ 140737488351232) (h : SmallF l) (k : Nat) (hk : 100 < k) : field_List_Get.f k l n = some (getB n l, decide (0 < (allV n l).length)) :=
  get_eval n l hn h.2 (by have := h.1; omega) k (by have := h.1; omega)
theorem optV_eq (a b : List S41) (n : ByteArray) : optV a n = optV b n ↔ (decide (0 < (allV n a).length) = decide (0 < (allV n b).length) ∧ (getB n a).data.toList = (getB n b).data.toList) := by
  unfold optV
  by_cases h1 : 0 < (allV n a).length
  · by_cases h2 : 0 < (allV n b).length
    · rw [if_pos h1, if_pos h2, decide_eq_true h1, decide_eq_true h2]
      simp
    · rw [if_pos h1, if_neg h2, decide_eq_true h1, decide_eq_false h2]
      simp
  · by_cases h2 : 0 < (allV n b).length
    · rw [if_neg h1, if_pos h2, decide_eq_false h1, decide_eq_true h2]
      simp
    · rw [if_neg h1, if_neg h2, decide_eq_false h1, decide_eq_false h2, getB_none a n (by omega), getB_none b n (by omega)]
      simp
theorem second_eval (l : List S41) (h : SmallF l) (k : Nat) (hk : 100 < k) : ∀ ns : List ByteArray, (∀ n ∈ ns, n.size ≤ 140737488351232) → second_go k l ns = some (encL (optV l) ns)
  | [], _ => rfl
  | n :: r, hn => by
    rw [second_go, getd_eval n l (hn n (by simp)) h k hk, Option.bind_some, second_eval l h k hk r (fun m hm => hn m (by simp [hm])), Option.bind_some]
    have hz := getB_size n l h
    unfold encL optV
    simp only [List.map_cons, List.flatten_cons]
    by_cases h0 : 0 < (allV n l).length
    · rw [if_pos (decide_eq_true h0), if_pos (by show (getB n l).size ≤ _; omega), if_pos h0]
      rfl
    · rw [if_neg (by rw [decide_eq_false h0]; simp), if_neg h0]
      rfl
theorem key_eval (l : List S41) (h : SmallF l) (k : Nat) (hk : 100 < k) (ns : List ByteArray) (hl : ns.length ≤ 1000) (hn : ∀ n ∈ ns, n.size ≤ 140737488351232) : key_Second.f k l ns = some ⟨(encL (optV l) ns).toArray⟩ := by
  unfold key_Second.f
  rw [if_pos hl, second_eval l h k hk ns hn]
  rfl
theorem arr_list (l : List UInt8) : (⟨l.toArray⟩ : ByteArray).toList = l := by rw [ByteArray.toList_eq]
theorem eqB_iff (a b : List UInt8) (c : Bool) (h : c = true ↔ a = b) : (((⟨a.toArray⟩ : ByteArray).toList == (⟨b.toArray⟩ : ByteArray).toList) == c) = true := by
  rw [arr_list, arr_list]
  cases c with
  | true => simpa using h.1 rfl
  | false =>
    have : ¬ a = b := fun e => by simpa using h.2 e
    simpa using this

/-! ## A place's key -/
def qB (Q has : Bool) (q : List UInt8) : List UInt8 := if Q = true then (if has = true then 63 :: markB q else [33]) else []
def firstB (Q : Bool) (heads : List ByteArray) (h p q : List UInt8) (has : Bool) (o : ByteArray → Option (List UInt8)) : List UInt8 := markB h ++ (markB p ++ (qB Q has q ++ encL o heads))
theorem mark1 (s : ByteArray) (h : s.size ≤ 1000000000) : key_mark.f [s] = some ⟨(markB s.data.toList).toArray⟩ := by
  unfold key_mark.f
  rw [if_pos ⟨by simp, by simpa using h⟩]
  simp [marksB]
theorem mark2 (s t : ByteArray) (h : s.size ≤ 1000000000) (h2 : t.size ≤ 1000000000) : key_mark.f [s, t] = some ⟨(markB s.data.toList ++ markB t.data.toList).toArray⟩ := by
  unfold key_mark.f
  rw [if_pos ⟨by simp, by simpa using ⟨h, h2⟩⟩]
  simp [marksB]
theorem arr_size (l : List UInt8) : (⟨l.toArray⟩ : ByteArray).size = l.length := by show l.toArray.size = _; simp
theorem arr_app (a b : List UInt8) : (⟨a.toArray⟩ : ByteArray) ++ ⟨b.toArray⟩ = ⟨(a ++ b).toArray⟩ := by
  apply ByteArray.ext
  rw [ByteArray.data_append]
  simp
theorem enc_len (l : List S41) (h : SmallF l) : ∀ ns : List ByteArray, (encL (optV l) ns).length ≤ ns.length * 200000
  | [] => by simp [encL]
  | n :: r => by
    have ih := enc_len l h r
    have h1 := getB_size n l h
    have h2 := markB_le (getB n l).data.toList
    have h3 : (getB n l).data.toList.length = (getB n l).size := by simp
    rw [encL_cons, List.length_append]
    have : (encO (optV l n)).length ≤ 200000 := by
      unfold optV
      split
      · simp only [encO, List.length_cons]; omega
      · simp [encO]
    simp only [List.length_cons]
    omega
theorem first_eval (s0 : ByteArray) (s1 s2 s3 : Int) (Q s5 : Bool) (heads : List ByteArray) (p0 p1 p2 : ByteArray) (has : Bool) (l : List S41) (h : SmallF l) (hh : heads.length ≤ 10 ∧ ∀ n ∈ heads, n.size ≤ 100) (h0 : p0.size ≤ 100) (h1 : p1.size ≤ 600) (h2 : p2.size ≤ 600) (k : Nat) (hk : 200 < k) :
    key_First.f k s0 s1 s2 s3 Q s5 heads p0 p1 p2 has l = some ⟨(firstB Q heads p0.data.toList p1.data.toList p2.data.toList has (optV l)).toArray⟩ := by
  obtain ⟨k, rfl⟩ : ∃ j, k = j + 1 := ⟨k - 1, by omega⟩
  have z0 := markB_le p0.data.toList
  have z1 := markB_le p1.data.toList
  have z2 := markB_le p2.data.toList
  have y0 : p0.data.toList.length = p0.size := by simp
  have y1 : p1.data.toList.length = p1.size := by simp
  have y2 : p2.data.toList.length = p2.size := by simp
  have ze := enc_len l h heads
  have ze2 : heads.length * 200000 ≤ 10 * 200000 := Nat.mul_le_mul_right _ hh.1
  have ks : key_Second.f k l heads = some ⟨(encL (optV l) heads).toArray⟩ := key_eval l h k (by omega) heads (by omega) (fun n hn => by have := hh.2 n hn; omega)
  have e63 : (⟨#[63]⟩ : ByteArray) = ⟨([63] : List UInt8).toArray⟩ := rfl
  have e33 : (⟨#[33]⟩ : ByteArray) = ⟨([33] : List UInt8).toArray⟩ := rfl
  have e00 : (⟨#[]⟩ : ByteArray) = ⟨([] : List UInt8).toArray⟩ := rfl
  unfold key_First.f
  cases Q with
  | true =>
    rw [if_pos rfl, key_First.j0]
    cases has with
    | true =>
      rw [if_pos rfl, mark1 p2 (by omega), Option.bind_some, if_pos (by rw [arr_size]; omega), mark2 p0 p1 (by omega) (by omega), Option.bind_some, e63, arr_app, if_pos (by rw [arr_size, arr_size]; simp; omega), ks, Option.bind_some, arr_app, if_pos (by rw [arr_size, arr_size]; simp; omega), arr_app]
      simp [firstB, qB]
    | false =>
      rw [if_neg (by simp), if_pos rfl, mark2 p0 p1 (by omega) (by omega), Option.bind_some, if_pos (by rw [arr_size]; simp; omega), ks, Option.bind_some, e33, arr_app, if_pos (by rw [arr_size, arr_size]; simp; omega), arr_app]
      simp [firstB, qB]
  | false =>
    rw [if_neg (by simp), key_First.j0, if_neg (by simp), if_neg (by simp), mark2 p0 p1 (by omega) (by omega), Option.bind_some, if_pos (by rw [arr_size, e00, arr_size]; simp; omega), ks, Option.bind_some, e00, arr_app, if_pos (by rw [arr_size, arr_size]; simp; omega), arr_app]
    simp [firstB, qB]
theorem qB_inj {Q has has' : Bool} {q q' r r' : List UInt8} (h : qB Q has q ++ r = qB Q has' q' ++ r') : (Q = true → has = has' ∧ (has = true → q = q')) ∧ r = r' := by
  unfold qB at h
  cases Q with
  | false => exact ⟨(fun h => by cases h), by simpa using h⟩
  | true =>
    cases has <;> cases has'
    · exact ⟨(fun _ => ⟨rfl, (fun h => by cases h)⟩), by simpa using h⟩
    · simp at h
    · simp at h
    · simp only [if_true, List.cons_append, List.cons.injEq, true_and] at h
      obtain ⟨e, f⟩ := markB_inj h
      exact ⟨fun _ => ⟨rfl, fun _ => e⟩, f⟩
theorem firstB_iff (Q : Bool) (heads : List ByteArray) (h p q h' p' q' : List UInt8) (has has' : Bool) (o o' : ByteArray → Option (List UInt8)) :
    firstB Q heads h p q has o = firstB Q heads h' p' q' has' o' ↔ (h = h' ∧ p = p' ∧ (Q = true → has = has' ∧ (has = true → q = q'))) ∧ ∀ n ∈ heads, o n = o' n := by
  constructor
  · intro e
    unfold firstB at e
    obtain ⟨e1, e⟩ := markB_inj e
    obtain ⟨e2, e⟩ := markB_inj e
    obtain ⟨e3, e⟩ := qB_inj e
    exact ⟨⟨e1, e2, e3⟩, (encL_eq_iff _ _ _).1 e⟩
  · rintro ⟨⟨rfl, rfl, e3⟩, e4⟩
    unfold firstB
    rw [encL_congr e4]
    congr 3
    unfold qB
    cases Q with
    | false => rfl
    | true =>
      obtain ⟨rfl, e5⟩ := e3 rfl
      cases has with
      | false => rfl
      | true => rw [e5 rfl]

/-! ## The names that vary: each once, rising -/
theorem ofLists_to (l : List (List UInt8)) : (ofLists l).map (·.data.toList) = l := by
  unfold ofLists
  rw [List.map_map]
  exact List.map_id'' (fun _ => rfl) l
def namesL (ys : List (List UInt8)) : List (List UInt8) := Lib.compact (ys.mergeSort (fun x y => decide (x ≤ y)))
theorem namesB_eq (xs : List ByteArray) : namesB xs = ofLists (namesL (xs.map (·.data.toList))) := by
  unfold namesB compB sortB sortL namesL
  rw [ofLists_to]
theorem lt_of_le_ne (x y : List UInt8) (h : x ≤ y) (hne : x ≠ y) : x < y := by
  rcases Classical.em (x < y) with h1 | h1
  · exact h1
  · exact absurd (List.le_antisymm h (List.not_lt.1 h1)) hne
theorem comp_upto (zs : List (List UInt8)) (hs : zs.Pairwise (· ≤ ·)) : ∀ m, m ≤ zs.length → (∀ x, x ∈ Lib.compactUpTo zs.toArray m ↔ x ∈ zs.take m) ∧ (Lib.compactUpTo zs.toArray m).Pairwise (· < ·) := by
  intro m
  induction m with
  | zero => intro _; simp [Lib.compactUpTo]
  | succ m ih =>
    intro hm
    obtain ⟨h1, h2⟩ := ih (by omega)
    have hlt : m < zs.length := by omega
    have hd : zs.toArray[m]! = zs[m] := by simp [hlt]
    rw [Lib.compactUpTo_succ, List.take_succ_eq_append_getElem hlt, hd]
    by_cases hk : Lib.keeps zs.toArray m = true
    · rw [if_pos hk]
      refine ⟨fun x => by rw [List.mem_append, List.mem_append, h1], ?_⟩
      rw [List.pairwise_append]
      refine ⟨h2, by simp, fun x hx y hy => ?_⟩
      obtain rfl := List.mem_singleton.1 hy
      have hx' := (h1 x).1 hx
      obtain ⟨j, hj, rfl⟩ := List.getElem_of_mem hx'
      rw [List.length_take] at hj
      rw [List.getElem_take]
      have hm0 : m ≠ 0 := by omega
      have hne : zs[m] ≠ zs[m - 1] := by
        simp only [Lib.keeps, decide_eq_true_eq] at hk
        rcases hk with hk | hk
        · exact absurd hk hm0
        · rw [hd] at hk
          have : zs.toArray[m - 1]! = zs[m - 1] := by
            have : m - 1 < zs.length := by omega
            simp [this]
          rw [this] at hk
          exact hk
      have hp := List.pairwise_iff_getElem.1 hs
      have l1 : zs[m - 1] < zs[m] := lt_of_le_ne _ _ (hp (m - 1) m (by omega) hlt (by omega)) (fun e => hne e.symm)
      by_cases e : j = m - 1
      · subst e; exact l1
      · exact List.lt_of_le_of_lt (hp j (m - 1) (by omega) (by omega) (by omega)) l1
    · rw [if_neg hk, List.append_nil]
      refine ⟨fun x => ?_, h2⟩
      rw [h1]
      constructor
      · intro h; exact List.mem_append_left _ h
      · intro h
        rcases List.mem_append.1 h with h | h
        · exact h
        · obtain rfl := List.mem_singleton.1 h
          simp only [Lib.keeps, decide_eq_true_eq, not_or, Classical.not_not] at hk
          obtain ⟨hm0, hk⟩ := hk
          rw [hd] at hk
          have : zs.toArray[m - 1]! = zs[m - 1] := by
            have : m - 1 < zs.length := by omega
            simp [this]
          rw [hk, this]
          exact List.mem_take_iff_getElem.2 ⟨m - 1, by omega, rfl⟩
theorem sort_le (ys : List (List UInt8)) : (ys.mergeSort (fun x y => decide (x ≤ y))).Pairwise (· ≤ ·) := by
  have := List.pairwise_mergeSort (le := fun x y : List UInt8 => decide (x ≤ y)) (fun a b c h1 h2 => by simp only [decide_eq_true_eq] at *; exact List.le_trans h1 h2) (fun a b => by simp only [Bool.or_eq_true, decide_eq_true_eq]; exact List.le_total a b) ys
  exact this.imp (fun h => of_decide_eq_true h)
theorem namesL_mem (ys : List (List UInt8)) (x : List UInt8) : x ∈ namesL ys ↔ x ∈ ys := by
  have h := (comp_upto (ys.mergeSort (fun x y => decide (x ≤ y))) (sort_le ys) _ (Nat.le_refl _)).1 x
  unfold namesL Lib.compact
  rw [h, List.take_length, List.mem_mergeSort]
theorem namesL_inc (ys : List (List UInt8)) : (namesL ys).Pairwise (· < ·) := (comp_upto (ys.mergeSort (fun x y => decide (x ≤ y))) (sort_le ys) _ (Nat.le_refl _)).2
theorem inc_unique : ∀ (a b : List (List UInt8)), a.Pairwise (· < ·) → b.Pairwise (· < ·) → (∀ x, x ∈ a ↔ x ∈ b) → a = b
  | [], [], _, _, _ => rfl
  | [], y :: b, _, _, h => absurd ((h y).2 (by simp)) (by simp)
  | x :: a, [], _, _, h => absurd ((h x).1 (by simp)) (by simp)
  | x :: a, y :: b, ha, hb, h => by
    obtain ⟨ha1, ha2⟩ := List.pairwise_cons.1 ha
    obtain ⟨hb1, hb2⟩ := List.pairwise_cons.1 hb
    have e : x = y := by
      rcases List.mem_cons.1 ((h x).1 (by simp)) with e | hx
      · exact e
      · rcases List.mem_cons.1 ((h y).2 (by simp)) with e | hy
        · exact e.symm
        · exact absurd (hb1 x hx) (List.lt_asymm (ha1 y hy))
    subst e
    rw [inc_unique a b ha2 hb2 (fun z => ?_)]
    constructor
    · intro hz
      rcases List.mem_cons.1 ((h z).1 (by simp [hz])) with rfl | hz2
      · exact absurd (ha1 _ hz) (List.lt_irrefl _)
      · exact hz2
    · intro hz
      rcases List.mem_cons.1 ((h z).2 (by simp [hz])) with rfl | hz2
      · exact absurd (hb1 _ hz) (List.lt_irrefl _)
      · exact hz2
theorem namesL_congr (ys zs : List (List UInt8)) (h : ∀ x, x ∈ ys ↔ x ∈ zs) : namesL ys = namesL zs :=
  inc_unique _ _ (namesL_inc _) (namesL_inc _) (fun x => by rw [namesL_mem, namesL_mem, h])
def starB (x : ByteArray) : Bool := decide (x.data.toList = [42])
def nmsOf (e : List ByteArray) : List ByteArray := (e.filter fun x => !starB x).map lowB
def varyU : ByteArray := ⟨#[86, 97, 114, 121]⟩
theorem nmsOf_cons (x : ByteArray) (r : List ByteArray) : nmsOf (x :: r) = if starB x = true then nmsOf r else lowB x :: nmsOf r := by
  unfold nmsOf
  cases h : starB x <;> simp [h]
theorem names_l0 (e : List ByteArray) (he : ∀ x ∈ e, x.size ≤ 140737488351232) (hl : e.length ≤ 1000000) : ∀ (d i k : Nat) (acc : List ByteArray) (star : Bool), i + d = e.length → acc.length ≤ i → d < k →
    key_Names.l0 k acc star e (e.length : Int) (i : Int) = some (namesB (acc ++ nmsOf (e.drop i)), star || (e.drop i).any starB) := by
  intro d
  induction d with
  | zero =>
    intro i k acc star hi ha hk
    obtain ⟨k, rfl⟩ : ∃ j, k = j + 1 := ⟨k - 1, by omega⟩
    simp only [key_Names.l0]
    rw [if_neg (by omega), if_pos (by omega), List.drop_of_length_le (by omega)]
    simp [nmsOf]
  | succ d ih =>
    intro i k acc star hi ha hk
    obtain ⟨k, rfl⟩ : ∃ j, k = j + 1 := ⟨k - 1, by omega⟩
    have hlt : i < e.length := by omega
    simp only [key_Names.l0]
    rw [if_pos (by omega), if_pos (by omega), if_pos (by omega), rdB e i hlt, w64n (by omega) (by omega), List.drop_eq_getElem_cons hlt, ByteArray.toList_eq]
    by_cases hs : e[i].data.toList = [42]
    · have hb : starB e[i] = true := decide_eq_true hs
      rw [if_pos hs]
      refine (ih (i + 1) k acc true (by omega) (by omega) (by omega)).trans ?_
      rw [nmsOf_cons, if_pos hb, List.any_cons, hb, Bool.true_or, Bool.or_true]
    · have hb : starB e[i] = false := decide_eq_false hs
      rw [if_neg hs]
      have hlo : sign_Lower.f e[i] = some (lowB e[i]) := by
        unfold sign_Lower.f
        rw [if_pos (he _ (List.getElem_mem hlt))]
      rw [hlo, Option.bind_some, if_pos (by omega)]
      refine (ih (i + 1) k (acc ++ [lowB e[i]]) star (by omega) (by simp; omega) (by omega)).trans ?_
      rw [nmsOf_cons, if_neg (by rw [hb]; simp), List.any_cons, hb, Bool.false_or, List.append_assoc]
      rfl
theorem names_eval (l : List S41) (h : SmallF l) (k : Nat) (hk : 3000200 < k) : key_Names.f k l = some (namesB (nmsOf (elemsB varyU l)), (elemsB varyU l).any starB) := by
  unfold key_Names.f
  have hok := elems_ok varyU l h
  rw [show (⟨#[86, 97, 114, 121]⟩ : ByteArray) = varyU from rfl, elems_eval varyU l (by decide) h k (by omega), Option.bind_some]
  have := names_l0 (elemsB varyU l) (fun x hx => by have := hok.2 x hx; omega) (by omega) (elemsB varyU l).length 0 k [] false (by omega) (by simp) (by omega)
  simpa using this
theorem names_set (e e' : List ByteArray) (h : ∀ x, x ∈ e ↔ x ∈ e') : namesB (nmsOf e) = namesB (nmsOf e') ∧ e.any starB = e'.any starB := by
  constructor
  · rw [namesB_eq, namesB_eq, namesL_congr _ _ (fun x => ?_)]
    simp only [nmsOf, List.mem_map, List.mem_filter, h]
  · rw [Bool.eq_iff_iff, List.any_eq_true, List.any_eq_true]
    simp only [h]

/-! ## The document's example -/
def exV : ByteArray := ⟨#[66, 44, 32, 97, 44, 98, 32, 44, 32, 42]⟩
theorem ex_elems : elemsB varyU [⟨⟨#[118, 97, 114, 121]⟩, exV⟩] = [⟨#[66]⟩, ⟨#[97]⟩, ⟨#[98]⟩, ⟨#[42]⟩] := by decide +kernel
theorem ex_names : namesB (nmsOf [⟨#[66]⟩, ⟨#[97]⟩, ⟨#[98]⟩, ⟨#[42]⟩]) = [⟨#[97]⟩, ⟨#[98]⟩] := by
  have e : nmsOf [⟨#[66]⟩, ⟨#[97]⟩, ⟨#[98]⟩, ⟨#[42]⟩] = [⟨#[98]⟩, ⟨#[97]⟩, ⟨#[98]⟩] := by decide +kernel
  rw [e, namesB_eq]
  have e2 : namesL ([⟨#[98]⟩, ⟨#[97]⟩, ⟨#[98]⟩].map fun x : ByteArray => x.data.toList) = [[97], [98]] := by
    refine inc_unique _ _ (namesL_inc _) (by decide) (fun x => ?_)
    rw [namesL_mem]
    simp only [List.map_cons, List.map_nil, List.mem_cons, List.not_mem_nil, or_false]
    constructor
    · rintro (h | h | h)
      · exact .inr h
      · exact .inl h
      · exact .inr h
    · rintro (h | h)
      · exact .inr (.inl h)
      · exact .inl h
  rw [e2]
  rfl
theorem dig3 : Lib.decDigits 3 = [51] := by rw [Lib.decDigits]; rfl
theorem dig2 : Lib.decDigits 2 = [50] := by rw [Lib.decDigits]; rfl
theorem anchor_ok (k : Nat) (hk : 3000300 ≤ k) : pantrylaw11_anchor.f k = some true := by
  have h1 := first_eval ⟨#[]⟩ 0 0 0 false false [⟨#[97, 99, 99, 101, 112, 116]⟩] ⟨#[97, 46, 98]⟩ ⟨#[47, 120]⟩ ⟨#[113]⟩ true [] ⟨by simp, by simp⟩ ⟨by simp, fun n hn => by obtain rfl := List.mem_singleton.1 hn; decide⟩ (by decide) (by decide) (by decide) k (by omega)
  have h2 := names_eval [⟨⟨#[118, 97, 114, 121]⟩, exV⟩] ⟨by simp, fun f hf => by obtain rfl := List.mem_singleton.1 hf; exact ⟨by decide, by decide⟩⟩ k (by omega)
  have hb : firstB false [⟨#[97, 99, 99, 101, 112, 116]⟩] (⟨#[97, 46, 98]⟩ : ByteArray).data.toList (⟨#[47, 120]⟩ : ByteArray).data.toList (⟨#[113]⟩ : ByteArray).data.toList true (optV []) = [51, 58, 97, 46, 98, 50, 58, 47, 120, 45] := by
    simp [firstB, qB, markB, encL, optV, allV, encO, dig3, dig2]
  rw [hb] at h1
  rw [ex_elems, ex_names] at h2
  unfold pantrylaw11_anchor.f
  rw [h1, Option.bind_some, show (⟨#[66, 44, 32, 97, 44, 98, 32, 44, 32, 42]⟩ : ByteArray) = exV from rfl, h2, Option.bind_some, arr_list, if_pos rfl]
  decide +kernel

/-! ## KeyVaries -/
theorem low_up (c : UInt8) : lowU (upU c) = lowU c := by
  unfold upU
  by_cases h : 97 ≤ c.toNat ∧ c.toNat ≤ 122
  · rw [if_pos h]
    have e : (UInt8.ofNat (c.toNat - 32)).toNat = c.toNat - 32 := by simp; omega
    unfold lowU
    rw [if_pos (by rw [e]; omega), if_neg (by omega), e, show c.toNat - 32 + 32 = c.toNat by omega]
    simp
  · rw [if_neg h]
theorem lowL_up (l : List UInt8) : lowL (upL l) = lowL l := by
  unfold lowL upL
  rw [List.map_map]
  exact List.map_congr_left (fun c _ => low_up c)
def upB (s : ByteArray) : ByteArray := ⟨(upL s.data.toList).toArray⟩
theorem sameB_up (a b : ByteArray) : sameB (upB a) b = sameB a b := by
  unfold sameB upB
  rw [show (⟨(upL a.data.toList).toArray⟩ : ByteArray).data.toList = upL a.data.toList from rfl, lowL_up]
theorem allV_up (n : ByteArray) (l : List S41) : allV (upB n) l = allV n l := by
  unfold allV
  have e : isOf [upB n] = isOf [n] := by
    funext f
    simp [isOf, sameB_up]
  rw [e]
theorem optV_up (l : List S41) (n : ByteArray) : optV l (upB n) = optV l n := by
  unfold optV getB
  rw [allV_up]
theorem up_size (n : ByteArray) : (upB n).size = n.size := by
  show (upL n.data.toList).toArray.size = n.size
  simp [upL]
theorem encL_up (l : List S41) (ns : List ByteArray) : encL (optV l) (ns.map upB) = encL (optV l) ns := by
  unfold encL
  rw [List.map_map]
  congr 1
  exact List.map_congr_left (fun n _ => by simp only [Function.comp]; rw [optV_up])
theorem allV_rest (ns : List ByteArray) (n : ByteArray) (hn : n ∈ ns) (l more : List S41) : allV n (l ++ wout ns more) = allV n l := by
  rw [allV_app]
  have : allV n (wout ns more) = [] := by
    unfold allV
    rw [List.map_eq_nil_iff, List.filter_eq_nil_iff]
    intro x hx h
    have h2 := wout_not hx
    unfold isOf at h h2
    rw [List.any_eq_false] at h2
    exact h2 n hn (by simpa using h)
  rw [this, List.append_nil]
theorem encL_rest (ns : List ByteArray) (l more : List S41) : encL (optV (l ++ wout ns more)) ns = encL (optV l) ns :=
  encL_congr (fun n hn => by unfold optV getB; rw [allV_rest ns n hn])
theorem kvaries_l0 (ns : List ByteArray) (a b : List S41) (ha : SmallP a) (hb : SmallP b) (hl : ns.length ≤ 10) : ∀ (d i k : Nat), i + d = ns.length → d + 3000 < k → (∀ n ∈ ns.take i, n.size ≤ 60) →
    pantrylaw11_KeyVaries.l0 k a b ns ((ns.take i).map upB) ns (ns.length : Int) (i : Int) = some true := by
  intro d
  induction d with
  | zero =>
    intro i k hi hk hz
    obtain ⟨k, rfl⟩ : ∃ j, k = j + 1 := ⟨k - 1, by omega⟩
    rw [List.take_of_length_le (by omega)] at hz ⊢
    have hz2 : ∀ n ∈ ns, n.size ≤ 140737488351232 := fun n hn => by have := hz n hn; omega
    have hwl := wout_len ns b
    have hS : SmallF (a ++ wout ns b) := by
      refine ⟨by rw [List.length_append]; have := ha.1; have := hb.1; omega, fun f hf => ?_⟩
      rcases List.mem_append.1 hf with hf | hf
      · exact ha.F.2 f hf
      · exact hb.F.2 f (wout_mem hf)
    rw [pantrylaw11_KeyVaries.l0, if_neg (by omega), wout_f ns b (by omega) hz2 (fun x hx => by have := (hb.2 x hx).1; omega) (by have := hb.1; omega) k (by have := hb.1; omega), Option.bind_some, key_eval a ha.F k (by omega) ns (by omega) hz2, Option.bind_some, Option.bind_some,
      if_pos (by have := ha.1; simp; omega), Option.bind_some, if_pos (by have := ha.1; have := hb.1; rw [List.nil_append]; omega), List.nil_append, key_eval _ hS k (by omega) ns (by omega) hz2, Option.bind_some, encL_rest, if_pos rfl,
      key_eval a ha.F k (by omega) (ns.map upB) (by simp; omega) (fun n hn => by obtain ⟨m, hm, rfl⟩ := List.mem_map.1 hn; rw [up_size]; exact hz2 m hm), Option.bind_some, encL_up]
    simp
  | succ d ih =>
    intro i k hi hk hz
    obtain ⟨k, rfl⟩ : ∃ j, k = j + 1 := ⟨k - 1, by omega⟩
    have hlt : i < ns.length := by omega
    rw [pantrylaw11_KeyVaries.l0, if_pos (by omega), if_pos (by omega), if_pos (by omega), rdB ns i hlt]
    by_cases hc : (ns[i].size : Int) > 60
    · rw [if_pos hc]
    · rw [if_neg hc, w64n (by omega) (by omega)]
      unfold upB.f
      rw [Option.bind_some, if_pos (by rw [List.length_map, List.length_take]; omega)]
      have e : (ns.take i).map upB ++ [⟨(upL ns[i].data.toList).toArray⟩] = (ns.take (i + 1)).map upB := by
        rw [List.take_succ_eq_append_getElem hlt, List.map_append]
        rfl
      rw [e]
      refine ih (i + 1) k (by omega) (by omega) (fun n hn => ?_)
      rw [List.take_succ_eq_append_getElem hlt] at hn
      rcases List.mem_append.1 hn with hn | hn
      · exact hz n hn
      · obtain rfl := List.mem_singleton.1 hn; omega
theorem law_KeyVaries (a b : List S41) (ns : List ByteArray) (ha : a.length ≤ 9223372036854775807) (hb : b.length ≤ 9223372036854775807) : ∃ k, pantrylaw11_KeyVaries.f k a b ns = some true := by
  obtain ⟨K, hK⟩ : ∃ K, a.length + b.length + 6000000 ≤ K := ⟨_, Nat.le_refl _⟩
  refine ⟨K + 1, ?_⟩
  have jt : pantrylaw11_KeyVaries.j0 (K + 1) a b ns true = some true := by simp [pantrylaw11_KeyVaries.j0]
  unfold pantrylaw11_KeyVaries.f
  rw [anchor_ok _ (by omega)]
  simp only [Option.bind_some]
  rw [if_pos trivial]
  obtain ⟨c, hc, hs⟩ := small_eval a ha (K + 1) (by omega)
  obtain ⟨c2, hc2, hs2⟩ := small_eval b hb (K + 1) (by omega)
  rw [hc, hc2]
  simp only [Option.bind_some]
  cases c with
  | false => rw [if_neg (by simp)]; exact jt
  | true =>
    rw [if_pos rfl]
    cases c2 with
    | false => rw [if_neg (by simp)]; exact jt
    | true =>
      rw [if_pos rfl]
      by_cases h : (ns.length : Int) > 10
      · rw [decide_eq_true h]; exact jt
      · rw [decide_eq_false h, pantrylaw11_KeyVaries.j0, if_neg (by simp)]
        have := kvaries_l0 ns a b (hs rfl) (hs2 rfl) (by omega) ns.length 0 K (by omega) (by omega) (fun n hn => by simp at hn)
        simpa using this

end Go.Proofs.YtagjgnmchgabgaaDoor.PAll
