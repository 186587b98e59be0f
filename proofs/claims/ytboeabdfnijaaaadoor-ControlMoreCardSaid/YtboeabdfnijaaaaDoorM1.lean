import Derived.Test.YtboeabdfnijaaaaDoorPAllx0
import Derived.Test.YtboeabdfnijaaaaDoorPAllx1
import Derived.Test.YtboeabdfnijaaaaDoorPAllx2
import Derived.Test.YtboeabdfnijaaaaDoorPAllx3
import Derived.Test.YtboeabdfnijaaaaDoorPAllx4
import Derived.Test.YtboeabdfnijaaaaDoorPAllx5
import Derived.Test.YtboeabdfnijaaaaDoorPAllx6
import Derived.Lib.Join
namespace Go.Proofs.YtboeabdfnijaaaaDoor.PAll
open Go.RowKit Go.Proofs.YtboeabdfnijaaaaDoorW.PrintWords Go.Proofs.YtboeabdfnijaaaaDoorW.PrintLast Go.Proofs.YtboeabdfnijaaaaDoorW.PrintMore
set_option linter.unusedVariables false
set_option linter.unusedSimpArgs false

theorem lowB_list (s : ByteArray) : (lowB s).data.toList = lowL s.data.toList := by simp [lowB]

theorem bt_at2 (s : ByteArray) (i : Nat) (h : i < s.data.toList.length) : bt s (i : Int) = ((s.data.toList[i]).toNat : Int) := by
  have h' : i < s.size := by simpa using h
  unfold bt
  simp only [Int.toNat_natCast]
  rw [dif_pos h']
  rfl

/-! What Without comes to (where With is not printed) -/
def isOf (ns : List ByteArray) (o : S40) : Bool := ns.any fun n => sameB n o.f0
def wout (ns : List ByteArray) (l : List S40) : List S40 := l.filter fun o => !isOf ns o
theorem w64n {x : Int} (h0 : -9223372036854775808 ≤ x) (h1 : x ≤ 9223372036854775807) : wrap64 x = x := by unfold wrap64; omega

/-! ## Fields, as lists -/
theorem anchor60 : pantrylaw04_anchor.f 60 = some true := by decide +kernel
theorem anchor_ok (k : Nat) (hk : 60 ≤ k) : pantrylaw04_anchor.f k = some true := by
  obtain ⟨j, rfl⟩ : ∃ j, k = 60 + j := ⟨k - 60, by omega⟩
  clear hk
  induction j with
  | zero => exact anchor60
  | succ j ih => exact pantrylaw04_anchor.mono _ _ ih
theorem rd39 (l : List S40) (i : Nat) (h : i < l.length) : rd_T40 l (i : Int) = l[i] := by simp [rd_T40, h]
theorem rdB (l : List ByteArray) (i : Nat) (h : i < l.length) : rdOf ByteArray.empty l (i : Int) = l[i] := by simp [rdOf, h]
def SmallF (l : List S40) : Prop := l.length ≤ 70 ∧ ∀ f ∈ l, f.f0.size ≤ 200 ∧ f.f1.size ≤ 1100
def SmallP (l : List S40) : Prop := l.length ≤ 30 ∧ ∀ f ∈ l, f.f0.size ≤ 100 ∧ f.f1.size ≤ 300
theorem SmallP.F {l : List S40} (h : SmallP l) : SmallF l := ⟨by have := h.1; omega, fun f hf => by have := h.2 f hf; omega⟩
theorem small_l0 (l : List S40) (hl : l.length ≤ 9223372036854775807) : ∀ (d i k : Nat), i + d = l.length → d < k →
    ∃ b, pantrylaw04_small.l0 k l l (l.length : Int) (i : Int) = some b ∧ (b = true → l.length ≤ 30 ∧ ∀ f ∈ l.drop i, f.f0.size ≤ 100 ∧ f.f1.size ≤ 300) := by
  intro d
  induction d with
  | zero =>
    intro i k hi hk
    obtain ⟨k, rfl⟩ : ∃ j, k = j + 1 := ⟨k - 1, by omega⟩
    simp only [pantrylaw04_small.l0]
    rw [if_neg (by omega)]
    refine ⟨_, rfl, fun h => ?_⟩
    have := of_decide_eq_true h
    rw [List.drop_of_length_le (by omega)]
    exact ⟨by omega, fun f hf => by cases hf⟩
  | succ d ih =>
    intro i k hi hk
    obtain ⟨k, rfl⟩ : ∃ j, k = j + 1 := ⟨k - 1, by omega⟩
    have hlt : i < l.length := by omega
    simp only [pantrylaw04_small.l0]
    rw [if_pos (by omega), if_pos (by omega), if_pos (by omega), rd39 l i hlt]
    by_cases h1 : ((l[i].f0).size : Int) > 100
    · rw [if_pos h1]; exact ⟨false, rfl, fun h => by cases h⟩
    · rw [if_neg h1]
      by_cases h2 : ((l[i].f1).size : Int) > 300
      · rw [if_pos h2]; exact ⟨false, rfl, fun h => by cases h⟩
      · rw [if_neg h2, w64n (by omega) (by omega)]
        obtain ⟨b, hb, hs⟩ := ih (i + 1) k (by omega) (by omega)
        refine ⟨b, hb, fun h => ?_⟩
        obtain ⟨h3, h4⟩ := hs h
        refine ⟨h3, fun f hf => ?_⟩
        rw [List.drop_eq_getElem_cons hlt] at hf
        rcases List.mem_cons.1 hf with rfl | hf
        · exact ⟨by omega, by omega⟩
        · exact h4 f hf
theorem small_eval (l : List S40) (hl : l.length ≤ 9223372036854775807) (k : Nat) (hk : l.length < k) : ∃ b, pantrylaw04_small.f k l = some b ∧ (b = true → SmallP l) := by
  obtain ⟨b, hb, hs⟩ := small_l0 l hl l.length 0 k (by omega) hk
  exact ⟨b, hb, fun h => by simpa [SmallP] using hs h⟩

/-! ## All, Get, Same -/
def allV (n : ByteArray) (l : List S40) : List ByteArray := (l.filter (isOf [n])).map (·.f1)
theorem all_l0 (n : ByteArray) (l : List S40) (hn : n.size ≤ 140737488351232) (hl : ∀ x ∈ l, x.f0.size ≤ 140737488351232) (hlen : l.length < 4398046511104) :
    ∀ (d i : Nat) (acc : List ByteArray) (k : Nat), i + d = l.length → acc.length ≤ i → d < k →
    field_List_All.l0 k n acc l (l.length : Int) (i : Int) = some (acc ++ allV n (l.drop i)) := by
  intro d
  induction d with
  | zero =>
    intro i acc k hi ha hk
    obtain ⟨k, rfl⟩ : ∃ j, k = j + 1 := ⟨k - 1, by omega⟩
    simp only [field_List_All.l0]
    rw [if_neg (by omega), List.drop_of_length_le (by omega)]
    simp [allV]
  | succ d ih =>
    intro i acc k hi ha hk
    obtain ⟨k, rfl⟩ : ∃ j, k = j + 1 := ⟨k - 1, by omega⟩
    have hlt : i < l.length := by omega
    simp only [field_List_All.l0]
    rw [if_pos (by omega), if_pos (by omega), if_pos (by omega), rd39 l i hlt]
    unfold field_Field_named.f
    rw [if_pos ⟨hl _ (List.getElem_mem hlt), by simp, by simpa using hn⟩]
    simp only [Option.bind_some]
    rw [List.drop_eq_getElem_cons hlt, w64n (by omega) (by omega)]
    by_cases hs : isOf [n] l[i] = true
    · have hs' : ([n].any fun n => sameB n l[i].f0) = true := hs
      rw [if_pos hs', if_pos (by omega)]
      have := ih (i + 1) (acc ++ [l[i].f1]) k (by omega) (by simp; omega) (by omega)
      rw [show ((i + 1 : Nat) : Int) = (i : Int) + 1 by omega] at this
      rw [this]
      unfold allV
      rw [List.filter_cons_of_pos hs, List.append_assoc]
      rfl
    · have hs' : ¬ ([n].any fun n => sameB n l[i].f0) = true := hs
      rw [if_neg hs']
      have := ih (i + 1) acc k (by omega) (by omega) (by omega)
      rw [show ((i + 1 : Nat) : Int) = (i : Int) + 1 by omega] at this
      rw [this]
      unfold allV
      rw [List.filter_cons_of_neg hs]
theorem all_eval (n : ByteArray) (l : List S40) (hn : n.size ≤ 140737488351232) (hl : ∀ x ∈ l, x.f0.size ≤ 140737488351232) (hlen : l.length < 4398046511104) (k : Nat) (hk : l.length < k) : field_List_All.f k l n = some (allV n l) := by
  unfold field_List_All.f
  have := all_l0 n l hn hl hlen l.length 0 [] k (by omega) (by simp) hk
  simpa using this
theorem inter_len (sep : List UInt8) (M : Nat) : ∀ (xs : List (List UInt8)), (∀ x ∈ xs, x.length ≤ M) → (sep.intercalate xs).length ≤ xs.length * (M + sep.length) := by
  intro xs
  induction xs with
  | nil => intro _; simp [List.intercalate]
  | cons x xs ih =>
    intro h
    have h1 := h x (by simp)
    have h2 := ih (fun y hy => h y (by simp [hy]))
    cases xs with
    | nil => simp [List.intercalate]; omega
    | cons y ys =>
      have e : sep.intercalate (x :: y :: ys) = x ++ (sep ++ sep.intercalate (y :: ys)) := by simp [List.intercalate]
      rw [e]
      simp only [List.length_append, List.length_cons, Nat.add_mul, Nat.one_mul] at *
      omega
theorem get_eval (n : ByteArray) (l : List S40) (hn : n.size ≤ 140737488351232) (hs : ∀ x ∈ l, x.f0.size ≤ 200 ∧ x.f1.size ≤ 1100) (hlen : l.length ≤ 1000000) (k : Nat) (hk : l.length < k) :
    field_List_Get.f k l n = some (⟨(joinB (allV n l) ⟨#[44, 32]⟩).toArray⟩, decide (0 < (allV n l).length)) := by
  unfold field_List_Get.f
  rw [all_eval n l hn (fun x hx => by have := (hs x hx).1; omega) (by omega) k hk]
  simp only [Option.bind_some]
  have hle : (allV n l).length ≤ l.length := by
    unfold allV
    rw [List.length_map]
    exact List.length_filter_le _ _
  have hok : joinOk (allV n l) ⟨#[44, 32]⟩ := by
    refine ⟨by omega, ?_⟩
    unfold joinB Lib.join
    have := inter_len (⟨#[44, 32]⟩ : ByteArray).data.toList 1100 ((allV n l).map (·.data.toList)) (fun x hx => by
      obtain ⟨y, hy, rfl⟩ := List.mem_map.1 hx
      unfold allV at hy
      obtain ⟨f, hf, rfl⟩ := List.mem_map.1 hy
      have := (hs f (List.mem_filter.1 hf).1).2
      simpa using this)
    rw [List.length_map] at this
    have h2 : ((⟨#[44, 32]⟩ : ByteArray).data.toList).length = 2 := rfl
    rw [h2] at this
    have : (allV n l).length * (1100 + 2) ≤ 1000000 * 1102 := Nat.mul_le_mul_right _ (by omega)
    omega
  unfold strings_Join.f
  rw [if_pos hok]
  simp only [Option.bind_some]
  congr 2
  rw [decide_eq_decide]
  omega

/-! ## FieldParts -/
theorem inter_app (sep : List UInt8) : ∀ (A B : List (List UInt8)), A ≠ [] → B ≠ [] → sep.intercalate (A ++ B) = sep.intercalate A ++ (sep ++ sep.intercalate B) := by
  intro A
  induction A with
  | nil => intro B h; exact absurd rfl h
  | cons x A ih =>
    intro B _ hB
    cases A with
    | nil =>
      cases B with
      | nil => exact absurd rfl hB
      | cons y ys => simp [List.intercalate]
    | cons z A =>
      have := ih B (by simp) hB
      have e1 : sep.intercalate (x :: z :: A) = x ++ (sep ++ sep.intercalate (z :: A)) := by simp [List.intercalate]
      have e2 : sep.intercalate (x :: z :: A ++ B) = x ++ (sep ++ sep.intercalate (z :: A ++ B)) := by simp [List.intercalate]
      rw [e1, e2, this]
      simp
def commaB : ByteArray := ⟨#[44, 32]⟩
def getB (n : ByteArray) (l : List S40) : ByteArray := ⟨(joinB (allV n l) commaB).toArray⟩
theorem getB_list (n : ByteArray) (l : List S40) : (getB n l).toList = joinB (allV n l) commaB := by
  rw [ByteArray.toList_eq]
  simp [getB]
theorem allV_app (n : ByteArray) (a b : List S40) : allV n (a ++ b) = allV n a ++ allV n b := by
  unfold allV
  rw [List.filter_append, List.map_append]
theorem joinB_app (A B : List ByteArray) (hA : A ≠ []) (hB : B ≠ []) : joinB (A ++ B) commaB = joinB A commaB ++ ([44, 32] ++ joinB B commaB) := by
  unfold joinB Lib.join
  rw [List.map_append]
  exact inter_app _ _ _ (by simpa using hA) (by simpa using hB)
theorem getB_size (n : ByteArray) (l : List S40) (h : SmallF l) : (getB n l).size ≤ 80000 := by
  have hle : (allV n l).length ≤ l.length := by
    unfold allV
    rw [List.length_map]
    exact List.length_filter_le _ _
  have := inter_len commaB.data.toList 1100 ((allV n l).map (·.data.toList)) (fun x hx => by
    obtain ⟨y, hy, rfl⟩ := List.mem_map.1 hx
    unfold allV at hy
    obtain ⟨f, hf, rfl⟩ := List.mem_map.1 hy
    have := (h.2 f (List.mem_filter.1 hf).1).2
    simpa using this)
  rw [List.length_map] at this
  have h2 : (commaB.data.toList).length = 2 := rfl
  rw [h2] at this
  have h3 : (allV n l).length * (1100 + 2) ≤ 70 * 1102 := Nat.mul_le_mul_right _ (by have := h.1; omega)
  have h4 : (getB n l).size = (joinB (allV n l) commaB).length := by
    show (joinB (allV n l) commaB).toArray.size = _
    simp
  rw [h4]
  show (List.intercalate _ _).length ≤ _
  omega

/-! ## Lists of elements -/
def endL : Bool → List UInt8 → Nat
  | _, [] => 0
  | q, [c] => if c = 34 then 1 else if q = true ∧ c = 92 then 1 else if q = false ∧ c = 44 then 0 else 1
  | q, c :: d :: l => if c = 34 then 1 + endL (!q) (d :: l) else if q = true ∧ c = 92 then 2 + endL q l else if q = false ∧ c = 44 then 0 else 1 + endL q (d :: l)
theorem endL_le : ∀ (n : Nat) (l : List UInt8) (q : Bool), l.length ≤ n → endL q l ≤ l.length := by
  intro n
  induction n with
  | zero =>
    intro l q h
    obtain rfl := List.eq_nil_of_length_eq_zero (by omega : l.length = 0)
    simp [endL]
  | succ n ih =>
    intro l q h
    match l, h with
    | [], _ => simp [endL]
    | [c], _ =>
      unfold endL
      simp only [List.length_cons, List.length_nil]
      split
      · omega
      · split
        · omega
        · split <;> omega
    | c :: d :: l, h =>
      simp only [List.length_cons] at h
      have h1 := ih (d :: l) (!q) (by simp; omega)
      have h2 := ih l q (by omega)
      have h3 := ih (d :: l) q (by simp; omega)
      unfold endL
      simp only [List.length_cons] at *
      split
      · omega
      · split
        · omega
        · split <;> omega
theorem u8_eq (c d : UInt8) : ((c.toNat : Int) = (d.toNat : Int)) ↔ c = d := by
  constructor
  · intro h
    exact UInt8.toNat_inj.1 (by omega)
  · rintro rfl; rfl
theorem end_past (s : ByteArray) (q : Bool) (i : Nat) (h : s.size ≤ i) (k : Nat) (hk : 0 < k) : sign_end.l0 k s q (i : Int) = some (s.size : Int) := by
  obtain ⟨k, rfl⟩ : ∃ j, k = j + 1 := ⟨k - 1, by omega⟩
  simp only [sign_end.l0]
  rw [if_neg (by omega)]
theorem end_l0 (s : ByteArray) (hs : s.size ≤ 1000000000) : ∀ (d i k : Nat) (q : Bool), i + d = s.size → 2 * d + 1 < k → sign_end.l0 k s q (i : Int) = some ((i + endL q (s.data.toList.drop i) : Nat) : Int) := by
  intro d
  induction d using Nat.strongRecOn with
  | _ d ih =>
    intro i k q hi hk
    have hz : s.data.toList.length = s.size := by simp
    cases d with
    | zero =>
      rw [end_past s q i (by omega) k (by omega), List.drop_of_length_le (by omega)]
      simp only [endL]
      congr 2
      omega
    | succ d =>
      obtain ⟨k, rfl⟩ : ∃ j, k = j + 1 := ⟨k - 1, by omega⟩
      have hlt : i < s.data.toList.length := by omega
      have n1 : ∀ (kk : Nat), 2 * d + 1 < kk → ∀ (q : Bool), sign_end.l0 kk s q ((i : Int) + 1) = some ((i + 1 + endL q (s.data.toList.drop (i + 1)) : Nat) : Int) := fun kk hkk q => by
        have := ih d (by omega) (i + 1) kk q (by omega) hkk
        rwa [show ((i + 1 : Nat) : Int) = (i : Int) + 1 by omega] at this
      have n2 : d = 0 ∨ 0 < d ∧ ∀ (kk : Nat), 2 * d < kk → ∀ (q : Bool), sign_end.l0 kk s q ((i : Int) + 1 + 1) = some ((i + 2 + endL q (s.data.toList.drop (i + 2)) : Nat) : Int) := by
        rcases Nat.eq_zero_or_pos d with h | h
        · exact .inl h
        · refine .inr ⟨h, fun kk hkk q => ?_⟩
          have := ih (d - 1) (by omega) (i + 2) kk q (by omega) (by omega)
          rwa [show ((i + 2 : Nat) : Int) = (i : Int) + 1 + 1 by omega] at this
      simp only [sign_end.l0]
      have hbt := bt_at2 s i hlt
      rw [if_pos (by omega), if_pos (by omega), hbt, w64n (by omega) (by omega)]
      rw [List.drop_eq_getElem_cons hlt]
      have e34 : ((s.data.toList[i]).toNat : Int) = 34 ↔ s.data.toList[i] = 34 := u8_eq _ 34
      have e92 : ((s.data.toList[i]).toNat : Int) = 92 ↔ s.data.toList[i] = 92 := u8_eq _ 92
      have e44 : ((s.data.toList[i]).toNat : Int) = 44 ↔ s.data.toList[i] = 44 := u8_eq _ 44
      generalize s.data.toList[i] = c at *
      have hstep : ∀ (q q' : Bool), endL q (c :: s.data.toList.drop (i + 1)) = 1 + endL q' (s.data.toList.drop (i + 1)) → some ((i + 1 + endL q' (s.data.toList.drop (i + 1)) : Nat) : Int) = some ((i + endL q (c :: s.data.toList.drop (i + 1)) : Nat) : Int) := by
        intro q q' h
        rw [h]
        congr 2
        omega
      by_cases h1 : c = 34
      · rw [if_pos (e34.2 h1), n1 _ (by omega)]
        refine hstep _ _ ?_
        subst h1
        cases s.data.toList.drop (i + 1) <;> simp [endL]
      · rw [if_neg (fun h => h1 (e34.1 h))]
        cases q with
        | true =>
          rw [if_pos rfl]
          obtain ⟨k, rfl⟩ : ∃ j, k = j + 1 := ⟨k - 1, by omega⟩
          simp only [sign_end.j1]
          by_cases h2 : c = 92
          · have hb : (((c.toNat : Int)) == 92) = true := beq_iff_eq.2 (e92.2 h2)
            rw [hb, if_pos rfl, w64n (x := (i : Int) + 1) (by omega) (by omega), w64n (by omega) (by omega)]
            rcases n2 with rfl | ⟨hd0, n2⟩
            · have := end_past s true (i + 2) (by omega) k (by omega)
              rw [show ((i + 2 : Nat) : Int) = (i : Int) + 1 + 1 by omega] at this
              rw [this, List.drop_of_length_le (by omega)]
              subst h2
              have e1 : endL true [(92 : UInt8)] = 1 := by decide
              rw [e1]
              exact congrArg some (by omega)
            · rw [n2 _ (by omega)]
              subst h2
              cases hd : s.data.toList.drop (i + 1) with
              | nil =>
                have := congrArg List.length hd
                rw [List.length_drop] at this
                simp only [List.length_nil] at this
                omega
              | cons x l =>
                have e2 : s.data.toList.drop (i + 2) = l := by
                  have := congrArg (List.drop 1) hd
                  rw [List.drop_drop] at this
                  simpa using this
                rw [e2]
                have e1 : endL true ((92 : UInt8) :: x :: l) = 2 + endL true l := by simp [endL]
                rw [e1]
                exact congrArg some (by omega)
          · have hb : (((c.toNat : Int)) == 92) = false := beq_eq_false_iff_ne.2 (fun h => h2 (e92.1 h))
            rw [hb, if_neg (by simp), if_pos trivial, w64n (by omega) (by omega), n1 _ (by omega)]
            refine hstep _ _ ?_
            cases s.data.toList.drop (i + 1) <;> simp [endL, h1, h2]
        | false =>
          rw [if_neg (by simp)]
          obtain ⟨k, rfl⟩ : ∃ j, k = j + 1 := ⟨k - 1, by omega⟩
          simp only [sign_end.j1]
          rw [if_neg (by simp), if_neg (by simp), if_pos (by omega), if_pos (by omega), hbt]
          by_cases h3 : c = 44
          · rw [if_pos (e44.2 h3)]
            subst h3
            cases s.data.toList.drop (i + 1) <;> simp [endL]
          · rw [if_neg (fun h => h3 (e44.1 h)), w64n (by omega) (by omega), n1 _ (by omega)]
            refine hstep _ _ ?_
            cases s.data.toList.drop (i + 1) <;> simp [endL, h1, h3]

def toB (l : List UInt8) : ByteArray := ⟨l.toArray⟩
theorem toB_list (l : List UInt8) : (toB l).data.toList = l := by simp [toB]
theorem of_list (s : ByteArray) : toB s.data.toList = s := by cases s; simp [toB]
theorem size_l (s : ByteArray) : s.size = s.data.toList.length := by simp
theorem ext_l (s : ByteArray) (a b : Nat) : (s.extract a b).data.toList = (s.data.toList.drop a).take (b - a) := by
  rw [ByteArray.data_extract, Array.toList_extract]
def trimL (l : List UInt8) : List UInt8 := Lib.trimS l [32, 9]
theorem dropWhile_len {α : Type} (p : α → Bool) (l : List α) : (l.dropWhile p).length ≤ l.length := (List.dropWhile_sublist p).length_le
theorem trimL_len (l : List UInt8) : (trimL l).length ≤ l.length := by
  unfold trimL Lib.trimS Lib.trimLeftS Lib.trimRightS
  refine Nat.le_trans (dropWhile_len _ _) ?_
  rw [List.length_reverse]
  refine Nat.le_trans (dropWhile_len _ _) ?_
  rw [List.length_reverse]
  exact Nat.le_refl _
theorem trim_eval (s : ByteArray) (hs : s.size ≤ 9223372036854775807) : sign_Trim.f s = some (toB (trimL s.data.toList)) := by
  unfold sign_Trim.f strings_Trim.f
  rw [if_pos ⟨hs, by decide, by decide⟩]
  rfl
def listL : Nat → List UInt8 → List (List UInt8)
  | 0, _ => []
  | k + 1, l => if l = [] then [] else (if trimL (l.take (endL false l)) = [] then [] else [trimL (l.take (endL false l))]) ++ listL k (l.drop (endL false l + 1))
theorem list_l0 : ∀ (n : Nat) (s : ByteArray) (acc : List ByteArray) (k : Nat), s.size ≤ n → n ≤ 1000000000 → acc.length + s.size ≤ 1000000000 → 3 * n + 10 < k →
    sign_List.l0 k s acc = some (acc ++ (listL (n + 1) s.data.toList).map toB) := by
  intro n
  induction n with
  | zero =>
    intro s acc k h0 h1 h2 hk
    obtain ⟨k, rfl⟩ : ∃ j, k = j + 1 := ⟨k - 1, by omega⟩
    have hnil : s.data.toList = [] := List.eq_nil_of_length_eq_zero (by rw [← size_l]; omega)
    simp only [sign_List.l0]
    rw [ByteArray.toList_eq, hnil, if_pos rfl]
    simp [listL]
  | succ n ih =>
    intro s acc k h0 h1 h2 hk
    obtain ⟨k, rfl⟩ : ∃ j, k = j + 1 := ⟨k - 1, by omega⟩
    simp only [sign_List.l0]
    rw [ByteArray.toList_eq]
    by_cases hnil : s.data.toList = []
    · rw [if_pos hnil, hnil]
      simp [listL]
    · rw [if_neg hnil]
      have hpos : 0 < s.size := by
        rw [size_l]
        exact List.length_pos_iff.2 hnil
      have he : sign_end.f k s = some ((endL false s.data.toList : Nat) : Int) := by
        unfold sign_end.f
        have := end_l0 s (by omega) s.size 0 k false (by omega) (by omega)
        rw [List.drop_zero, Nat.zero_add] at this
        exact this
      have hle := endL_le s.data.toList.length s.data.toList false (Nat.le_refl _)
      rw [← size_l] at hle
      rw [he]
      simp only [Option.bind_some]
      rw [listL, if_neg hnil]
      generalize hE : endL false s.data.toList = E at *
      rw [if_pos (by omega), if_pos (by omega), trim_eval _ (by rw [ByteArray.size_extract]; omega)]
      simp only [Option.bind_some]
      rw [ByteArray.toList_eq, toB_list, ext_l, Int.toNat_natCast, List.drop_zero, Nat.sub_zero]
      have hmn : mn (wrap64 ((E : Int) + 1)) (s.size : Int) = ((min (E + 1) s.size : Nat) : Int) := by
        rw [w64n (by omega) (by omega)]
        unfold mn
        split <;> omega
      rw [hmn, Int.toNat_natCast]
      have hsz : (s.extract (min (E + 1) s.size) s.size).size ≤ n := by rw [ByteArray.size_extract]; omega
      have hdl : (s.extract (min (E + 1) s.size) s.size).data.toList = s.data.toList.drop (E + 1) := by
        rw [ext_l]
        have hz := size_l s
        by_cases hc : E + 1 ≤ s.size
        · rw [Nat.min_eq_left hc]
          exact List.take_of_length_le (by rw [List.length_drop]; omega)
        · rw [List.drop_of_length_le (l := s.data.toList) (i := E + 1) (by omega), List.drop_of_length_le (by omega)]
          exact List.take_nil
      have hsz2 : (s.extract (min (E + 1) s.size) s.size).size ≤ s.size - 1 := by rw [ByteArray.size_extract]; omega
      by_cases ht : trimL (s.data.toList.take E) = []
      · rw [if_pos ht, if_pos ht, if_pos (by omega), if_pos (by omega), List.nil_append]
        rw [ih _ acc k hsz (by omega) (by omega) (by omega), hdl]
      · rw [if_neg ht, if_neg ht, if_pos (by omega), if_pos (by omega), if_pos (by omega)]
        rw [ih _ (acc ++ [toB (trimL (s.data.toList.take E))]) k hsz (by omega) (by simp; omega) (by omega), hdl]
        simp
theorem list_eval (s : ByteArray) (hs : s.size ≤ 1000000) (k : Nat) (hk : 3000100 < k) : sign_List.f k s = some ((listL (s.size + 1) s.data.toList).map toB) := by
  unfold sign_List.f
  have := list_l0 s.size s [] k (Nat.le_refl _) (by omega) (by simp; omega) (by omega)
  simpa using this
theorem listL_len : ∀ (n : Nat) (l : List UInt8), (listL n l).length ≤ n ∧ ∀ x ∈ listL n l, x.length ≤ l.length := by
  intro n
  induction n with
  | zero => intro l; simp [listL]
  | succ n ih =>
    intro l
    rw [listL]
    by_cases h : l = []
    · rw [if_pos h]; simp
    · rw [if_neg h]
      obtain ⟨i1, i2⟩ := ih (l.drop (endL false l + 1))
      have hd : (l.drop (endL false l + 1)).length ≤ l.length := by rw [List.length_drop]; omega
      by_cases ht : trimL (l.take (endL false l)) = []
      · rw [if_pos ht, List.nil_append]
        exact ⟨by omega, fun x hx => Nat.le_trans (i2 x hx) hd⟩
      · rw [if_neg ht]
        refine ⟨by simp; omega, fun x hx => ?_⟩
        rcases List.mem_append.1 hx with hx | hx
        · obtain rfl := List.mem_singleton.1 hx
          refine Nat.le_trans (trimL_len _) ?_
          rw [List.length_take]
          omega
        · exact Nat.le_trans (i2 x hx) hd
def elemsB (n : ByteArray) (l : List S40) : List ByteArray := (listL ((getB n l).size + 1) (getB n l).data.toList).map toB
theorem elems_eval (n : ByteArray) (l : List S40) (hn : n.size ≤ 1000) (h : SmallF l) (k : Nat) (hk : 3000100 < k) : field_List_Elements.f k l n = some (elemsB n l) := by
  unfold field_List_Elements.f
  have g : field_List_Get.f k l n = some (getB n l, decide (0 < (allV n l).length)) := get_eval n l (by omega) h.2 (by have := h.1; omega) k (by have := h.1; omega)
  rw [g]
  simp only [Option.bind_some]
  have := getB_size n l h
  rw [list_eval _ (by omega) k hk]
  rfl
theorem elems_ok (n : ByteArray) (l : List S40) (h : SmallF l) : (elemsB n l).length ≤ 100000 ∧ ∀ x ∈ elemsB n l, x.size ≤ 80000 := by
  have hg := getB_size n l h
  obtain ⟨i1, i2⟩ := listL_len ((getB n l).size + 1) (getB n l).data.toList
  unfold elemsB
  refine ⟨by rw [List.length_map]; omega, fun x hx => ?_⟩
  obtain ⟨y, hy, rfl⟩ := List.mem_map.1 hx
  have := i2 y hy
  rw [← size_l] at this
  rw [size_l, toB_list]
  omega

theorem has_eval (n w : ByteArray) (l : List S40) (hn : n.size ≤ 1000) (hw : w.size ≤ 1000) (h : SmallF l) (k : Nat) (hk : 3000100 < k) : field_List_Has.f k l n w = some ((elemsB n l).any fun e => sameB e w) := by
  unfold field_List_Has.f
  rw [elems_eval n l hn h k hk]
  simp only [Option.bind_some]
  obtain ⟨e1, e2⟩ := elems_ok n l h
  rw [if_pos ⟨by omega, by omega, fun x hx => by have := e2 x hx; omega⟩]

/-! Small letters of small letters -/
theorem lowU_idem (c : UInt8) : lowU (lowU c) = lowU c := by
  unfold lowU
  by_cases h : 65 ≤ c.toNat ∧ c.toNat ≤ 90
  · rw [if_pos h]
    have e : (UInt8.ofNat (c.toNat + 32)).toNat = c.toNat + 32 := by simp; omega
    rw [if_neg (by rw [e]; omega)]
  · rw [if_neg h, if_neg h]
theorem lowL_idem (l : List UInt8) : lowL (lowL l) = lowL l := by
  unfold lowL
  rw [List.map_map]
  exact List.map_congr_left fun c _ => lowU_idem c
theorem lowB_size (s : ByteArray) : (lowB s).size = s.size := by
  rw [size_l, size_l, lowB_list]
  simp [lowL]
theorem sameB_low (a b : ByteArray) : sameB (lowB a) b = sameB a b := by
  unfold sameB
  rw [lowB_list, lowL_idem]
theorem sameB_low2 (a b : ByteArray) : sameB a (lowB b) = sameB a b := by
  unfold sameB
  rw [lowB_list, lowL_idem]

/-! ## What is right -/
def marksB : List UInt8 := [33, 35, 36, 37, 38, 39, 42, 43, 45, 46, 94, 95, 124, 126, 96]
def tokC (c : UInt8) : Bool := (sign_letter.f (c.toNat : Int)).getD false || !(decide (Lib.indexByte marksB (c.toNat : Int).toNat.toUInt8 < 0))
theorem tok_fin : ∀ c : Fin 256, (sign_letter.f (c.val : Int)).isSome = true := by decide +kernel
theorem tok_u8 (c : UInt8) : True ∧ (∃ b, sign_letter.f (c.toNat : Int) = some b ∧ tokC c = (b || !(decide (Lib.indexByte marksB (c.toNat : Int).toNat.toUInt8 < 0)))) := by
  obtain ⟨b, hb⟩ := Option.isSome_iff_exists.1 (tok_fin ⟨c.toNat, c.toNat_lt⟩)
  have hb' : sign_letter.f (c.toNat : Int) = some b := hb
  refine ⟨trivial, b, hb', ?_⟩
  unfold tokC
  rw [hb']
  rfl
def tokV (s : ByteArray) : Bool := s.data.toList.all tokC && decide (0 < s.size)
theorem ne_nil_iff (s : ByteArray) : (s.toList != []) = decide (0 < s.size) := by
  rw [ByteArray.toList_eq, size_l]
  cases s.data.toList <;> simp
theorem token_l0 (s : ByteArray) (hs : s.size ≤ 1000000000) : ∀ (d i k : Nat), i + d = s.size → d < k → sign_Token.l0 k s (s.size : Int) (i : Int) = some ((s.data.toList.drop i).all tokC && decide (0 < s.size)) := by
  intro d
  induction d with
  | zero =>
    intro i k hi hk
    obtain ⟨k, rfl⟩ : ∃ j, k = j + 1 := ⟨k - 1, by omega⟩
    have hz := size_l s
    simp only [sign_Token.l0]
    rw [if_neg (by omega), List.drop_of_length_le (by omega), ne_nil_iff]
    simp
  | succ d ih =>
    intro i k hi hk
    obtain ⟨k, rfl⟩ : ∃ j, k = j + 1 := ⟨k - 1, by omega⟩
    have hz := size_l s
    have hlt : i < s.data.toList.length := by omega
    obtain ⟨_, b, hb, ht⟩ := tok_u8 s.data.toList[i]
    simp only [sign_Token.l0]
    rw [if_pos (by omega), if_pos (by omega), if_pos (by omega), bt_at2 s i hlt, hb, w64n (by omega) (by omega)]
    simp only [Option.bind_some]
    have := ih (i + 1) k (by omega) (by omega)
    rw [show ((i + 1 : Nat) : Int) = (i : Int) + 1 by omega] at this
    rw [List.drop_eq_getElem_cons hlt, List.all_cons, this]
    cases b with
    | true =>
      rw [if_pos rfl, ht]
      simp
    | false =>
      rw [if_neg (by simp)]
      unfold strings_IndexByte.f
      simp only [Option.bind_some]
      rw [Bool.false_or] at ht
      by_cases hc : Lib.indexByte marksB ((s.data.toList[i]).toNat : Int).toNat.toUInt8 < 0
      · rw [ht, decide_eq_true hc]
        refine (if_pos hc).trans ?_
        simp
      · rw [ht, decide_eq_false hc]
        refine (if_neg hc).trans ?_
        simp
theorem token_eval (s : ByteArray) (hs : s.size ≤ 1000000000) (k : Nat) (hk : s.size < k) : sign_Token.f k s = some (tokV s) := by
  unfold sign_Token.f
  have := token_l0 s hs s.size 0 k (by omega) hk
  exact this

/-! ## Quoted texts and numbers -/
def unqP : List UInt8 → Option (List UInt8)
  | [] => none
  | [c] => if c = 34 then some [] else none
  | c :: d :: l => if c = 34 then none else if c = 92 then (unqP l).map (d :: ·) else (unqP (d :: l)).map (c :: ·)
def unqR : List UInt8 → Option (List UInt8)
  | [] => some []
  | [c] => if c = 34 then none else if c = 92 then none else some [c]
  | c :: d :: l => if c = 34 then none else if c = 92 then (unqR l).map (d :: ·) else (unqR (d :: l)).map (c :: ·)
def numsOf (l : List UInt8) : List Int := l.map fun c => (c.toNat : Int)
def resU (acc : List Int) : Option (List UInt8) → ByteArray × Bool
  | none => (⟨#[]⟩, false)
  | some r => (strOfNums (acc ++ numsOf r), true)
theorem resU_cons (acc : List Int) (c : UInt8) (o : Option (List UInt8)) : resU acc (o.map (c :: ·)) = resU (acc ++ [(c.toNat : Int)]) o := by
  cases o with
  | none => rfl
  | some r => simp [resU, numsOf]
theorem unqP_len : ∀ (n : Nat) (l : List UInt8), l.length ≤ n → ∀ r, unqP l = some r → r.length ≤ l.length := by
  intro n
  induction n with
  | zero =>
    intro l h r hr
    obtain rfl := List.eq_nil_of_length_eq_zero (by omega : l.length = 0)
    cases hr
  | succ n ih =>
    intro l h r hr
    match l, h with
    | [], _ => cases hr
    | [c], _ =>
      rw [unqP] at hr
      split at hr
      · obtain rfl := Option.some.inj hr; simp
      · cases hr
    | c :: d :: l, h =>
      simp only [List.length_cons] at h
      rw [unqP] at hr
      split at hr
      · cases hr
      · split at hr
        · obtain ⟨r', hr', rfl⟩ := Option.map_eq_some_iff.1 hr
          have := ih l (by omega) r' hr'
          simp only [List.length_cons]
          omega
        · obtain ⟨r', hr', rfl⟩ := Option.map_eq_some_iff.1 hr
          have := ih (d :: l) (by simp; omega) r' hr'
          simp only [List.length_cons] at this ⊢
          omega
theorem unq_l0 (s : ByteArray) (hs : s.size ≤ 1000000) : ∀ (d i k : Nat) (acc : List Int), i + d = s.size → 1 ≤ i → acc.length ≤ i → d < k → sign_Unquote.l0 k s acc (i : Int) = some (resU acc (unqP (s.data.toList.drop i))) := by
  have hz := size_l s
  intro d
  induction d using Nat.strongRecOn with
  | _ d ih =>
    intro i k acc hi h1 ha hk
    obtain ⟨k, rfl⟩ : ∃ j, k = j + 1 := ⟨k - 1, by omega⟩
    simp only [sign_Unquote.l0]
    cases d with
    | zero =>
      rw [if_neg (by omega), List.drop_of_length_le (by omega)]
      rfl
    | succ d =>
      have hlt : i < s.data.toList.length := by omega
      have e34 : ((s.data.toList[i]).toNat : Int) = 34 ↔ s.data.toList[i] = 34 := u8_eq _ 34
      have e92 : ((s.data.toList[i]).toNat : Int) = 92 ↔ s.data.toList[i] = 92 := u8_eq _ 92
      rw [if_pos (by omega), if_pos (by omega), bt_at2 s i hlt, w64n (x := (s.size : Int) - 1) (by omega) (by omega), w64n (x := (i : Int) + 1) (by omega) (by omega)]
      have n1 : ∀ acc' : List Int, acc'.length ≤ i + 1 → sign_Unquote.l0 k s acc' ((i : Int) + 1) = some (resU acc' (unqP (s.data.toList.drop (i + 1)))) := fun acc' h => by
        have := ih d (by omega) (i + 1) k acc' (by omega) (by omega) h (by omega)
        rwa [show ((i + 1 : Nat) : Int) = (i : Int) + 1 by omega] at this
      by_cases c1 : s.data.toList[i] = 34
      · rw [if_pos (e34.2 c1)]
        rcases Nat.eq_zero_or_pos d with hd | hd
        · rw [if_neg (by omega), List.drop_eq_getElem_cons hlt, List.drop_of_length_le (i := i + 1) (by omega), unqP, if_pos c1]
          simp [resU, numsOf]
        · have hlt2 : i + 1 < s.data.toList.length := by omega
          rw [if_pos (by omega), List.drop_eq_getElem_cons hlt, List.drop_eq_getElem_cons hlt2, unqP, if_pos c1]
          rfl
      · rw [if_neg (fun x => c1 (e34.1 x))]
        by_cases c2 : s.data.toList[i] = 92
        · rw [if_pos (e92.2 c2)]
          rcases Nat.eq_zero_or_pos d with hd | hd
          · rw [if_pos (by omega), List.drop_eq_getElem_cons hlt, List.drop_of_length_le (i := i + 1) (by omega), unqP, if_neg c1]
            rfl
          · have hlt2 : i + 1 < s.data.toList.length := by omega
            have hb := bt_at2 s (i + 1) hlt2
            rw [show ((i + 1 : Nat) : Int) = (i : Int) + 1 by omega] at hb
            have := ih (d - 1) (by omega) (i + 2) k (acc ++ [((s.data.toList[i + 1]).toNat : Int)]) (by omega) (by omega) (by simp; omega) (by omega)
            rw [show ((i + 2 : Nat) : Int) = (i : Int) + 1 + 1 by omega] at this
            rw [if_neg (by omega), if_pos (by omega), if_pos (by omega), if_pos (by omega), hb, w64n (by omega) (by omega), this, List.drop_eq_getElem_cons hlt, List.drop_eq_getElem_cons hlt2, unqP, if_neg c1, if_pos c2, resU_cons]
        · rw [if_neg (fun x => c2 (e92.1 x)), if_pos (by omega), n1 _ (by simp; omega), List.drop_eq_getElem_cons hlt]
          rcases Nat.eq_zero_or_pos d with hd | hd
          · have e : unqP [s.data.toList[i]] = none := by rw [unqP, if_neg c1]
            rw [List.drop_of_length_le (i := i + 1) (by omega), e]
            rfl
          · have hlt2 : i + 1 < s.data.toList.length := by omega
            rw [List.drop_eq_getElem_cons hlt2, unqP, if_neg c1, if_neg c2, resU_cons]
def unqV (s : ByteArray) : ByteArray × Bool := if tokV s = true then (s, true) else if s.size < 2 then (⟨#[]⟩, false) else if bt s 0 = 34 then resU [] (unqP (s.data.toList.drop 1)) else (⟨#[]⟩, false)
theorem unq_eval (s : ByteArray) (hs : s.size ≤ 1000000) (k : Nat) (hk : 2000000 < k) : sign_Unquote.f k s = some (unqV s) := by
  unfold sign_Unquote.f unqV
  obtain ⟨k, rfl⟩ : ∃ j, k = j + 1 := ⟨k - 1, by omega⟩
  rw [token_eval s (by omega) _ (by omega)]
  simp only [Option.bind_some]
  have jt : sign_Unquote.j0 (k + 1) s true = some (⟨#[]⟩, false) := by simp [sign_Unquote.j0]
  cases tokV s with
  | true => rw [if_pos rfl, if_pos rfl]
  | false =>
    rw [if_neg (show ¬ (false = true) by simp), if_neg (show ¬ (false = true) by simp)]
    by_cases h2 : s.size < 2
    · rw [if_pos (by omega), if_pos h2, jt]
    · rw [if_neg (by omega), if_neg h2, if_pos (by omega)]
      by_cases h3 : bt s 0 = 34
      · rw [if_pos h3, h3]
        simp only [sign_Unquote.j0]
        rw [if_neg (by simp)]
        have := unq_l0 s hs (s.size - 1) 1 k [] (by omega) (by omega) (by simp) (by omega)
        exact this
      · rw [if_neg h3, bne_iff_ne.2 h3, jt]
theorem unqV_size (s : ByteArray) : (unqV s).1.size ≤ s.size := by
  unfold unqV
  split
  · exact Nat.le_refl _
  · split
    · exact Nat.zero_le _
    · split
      · cases h : unqP (s.data.toList.drop 1) with
        | none => exact Nat.zero_le _
        | some r =>
          have := unqP_len _ _ (Nat.le_refl _) r h
          rw [List.length_drop, ← size_l] at this
          have e : (resU [] (some r)).1.size = r.length := by simp [resU, strOfNums, numsOf, ByteArray.size]
          rw [e]
          omega
      · exact Nat.zero_le _
def numP : Int → List UInt8 → Option Int
  | n, [] => some n
  | n, c :: l => if c.toNat < 48 ∨ c.toNat > 57 then none else numP (mn (10 * n + ((c.toNat : Int) - 48)) 2147483648) l
theorem numP_range : ∀ (l : List UInt8) (n : Int), 0 ≤ n → ∀ v, numP n l = some v → 0 ≤ v := by
  intro l
  induction l with
  | nil => intro n hn v hv; obtain rfl := Option.some.inj hv; exact hn
  | cons c l ih =>
    intro n hn v hv
    rw [numP] at hv
    split at hv
    · cases hv
    · refine ih _ ?_ v hv
      unfold mn
      split <;> omega
def numV (s : ByteArray) : Int × Bool := match numP 0 s.data.toList with
  | none => (0, false)
  | some v => (v, decide (0 < s.size))
theorem num_l0 (s : ByteArray) (hs : s.size ≤ 1000000) : ∀ (d i k : Nat) (n : Int), i + d = s.size → 0 ≤ n → n ≤ 2147483648 → d < k →
    sign_Number.l0 k s n (s.size : Int) (i : Int) = some (match numP n (s.data.toList.drop i) with | none => (0, false) | some v => (v, decide (0 < s.size))) := by
  have hz := size_l s
  intro d
  induction d with
  | zero =>
    intro i k n hi h0 h1 hk
    obtain ⟨k, rfl⟩ : ∃ j, k = j + 1 := ⟨k - 1, by omega⟩
    simp only [sign_Number.l0]
    rw [if_neg (by omega), List.drop_of_length_le (by omega), ne_nil_iff]
    rfl
  | succ d ih =>
    intro i k n hi h0 h1 hk
    obtain ⟨k, rfl⟩ : ∃ j, k = j + 1 := ⟨k - 1, by omega⟩
    have hlt : i < s.data.toList.length := by omega
    simp only [sign_Number.l0]
    rw [if_pos (by omega), if_pos (by omega), if_pos (by omega), bt_at2 s i hlt, List.drop_eq_getElem_cons hlt, numP]
    by_cases c1 : ((s.data.toList[i]).toNat : Int) < 48
    · rw [if_pos c1, if_pos (by omega)]
    · rw [if_neg c1]
      by_cases c2 : ((s.data.toList[i]).toNat : Int) > 57
      · rw [if_pos c2, if_pos (by omega)]
      · have hm : 0 ≤ mn (10 * n + (((s.data.toList[i]).toNat : Int) - 48)) 2147483648 ∧ mn (10 * n + (((s.data.toList[i]).toNat : Int) - 48)) 2147483648 ≤ 2147483648 := by unfold mn; split <;> omega
        rw [if_neg c2, if_neg (by omega), w64n (x := 10 * n) (by omega) (by omega), show (((s.data.toList[i]).toNat : Int) - 48) % 256 = ((s.data.toList[i]).toNat : Int) - 48 by omega, w64n (x := 10 * n + _) (by omega) (by omega), w64n (by omega) (by omega)]
        have := ih (i + 1) k _ (by omega) hm.1 hm.2 (by omega)
        rwa [show ((i + 1 : Nat) : Int) = (i : Int) + 1 by omega] at this
theorem num_eval (s : ByteArray) (hs : s.size ≤ 1000000) (k : Nat) (hk : 1000000 < k) : sign_Number.f k s = some (numV s) := by
  unfold sign_Number.f
  exact num_l0 s hs s.size 0 k 0 (Nat.zero_add _) (by omega) (by omega) (by omega)
def secV (arg : ByteArray) (other : Int) : Int := if (unqV arg).2 = true then (if (numV (unqV arg).1).2 = true then (numV (unqV arg).1).1 else other) else other
theorem sec_eval (arg : ByteArray) (h : arg.size ≤ 1000000) (other : Int) (k : Nat) (hk : 2000000 < k) : control_seconds.f k arg other = some (secV arg other) := by
  have hz := unqV_size arg
  unfold control_seconds.f secV
  rw [unq_eval arg h k hk]
  simp only [Option.bind_some]
  rw [num_eval _ (by omega) k (by omega)]
  simp only [Option.bind_some]
  split
  · split <;> rfl
  · rfl
theorem sec_range (arg : ByteArray) (other : Int) (ho : 0 ≤ other) : 0 ≤ secV arg other := by
  unfold secV
  split
  · split
    · unfold numV
      cases h : numP 0 (unqV arg).1.data.toList with
      | none => exact Int.le_refl _
      | some v => exact numP_range _ 0 (Int.le_refl _) v h
    · exact ho
  · exact ho
theorem sec_none (other : Int) : secV ⟨#[]⟩ other = other := rfl

/-! ## What fields say -/
theorem small_l {x : ByteArray} (h : x.size ≤ 80000) : x.size ≤ 1000000 := by omega
theorem cut_size (e : ByteArray) (M : Nat) (h : e.size ≤ M) : (cutA e).size ≤ M ∧ (cutB e).size ≤ M := by
  unfold cutA cutB
  constructor
  · split
    · rw [ByteArray.size_extract]; omega
    · exact h
  · split
    · rw [ByteArray.size_extract]; omega
    · exact Nat.zero_le _
theorem cut_none (e : ByteArray) (h : cutH e = false) : cutB e = ⟨#[]⟩ := by
  unfold cutH at h
  unfold cutB
  rw [if_neg (of_decide_eq_false h)]
def nmIs (e : ByteArray) (nm : List UInt8) : Bool := (lowB (cutA e)).toList == nm
def saidV (es : List ByteArray) (nm : List UInt8) : Bool := es.any fun e => nmIs e nm
def secE (e : ByteArray) (other bare : Int) : Int := if cutH e = true then secV (cutB e) other else bare
def stepL (most : Bool) (o s : Int) : Int := if o < 0 ∨ (most = true ∧ s > o) ∨ (most = false ∧ s < o) then s else o
def toldV (nm : List UInt8) (other bare : Int) (most : Bool) : Int → List ByteArray → Int
  | o, [] => o
  | o, e :: l => toldV nm other bare most (if nmIs e nm = true then stepL most o (secE e other bare) else o) l
def nNoStore : List UInt8 := [110, 111, 45, 115, 116, 111, 114, 101]
def nNoCache : List UInt8 := [110, 111, 45, 99, 97, 99, 104, 101]
def nPrivate : List UInt8 := [112, 114, 105, 118, 97, 116, 101]
def nPublic : List UInt8 := [112, 117, 98, 108, 105, 99]
def nMust : List UInt8 := [109, 117, 115, 116, 45, 114, 101, 118, 97, 108, 105, 100, 97, 116, 101]
def nProxy : List UInt8 := [112, 114, 111, 120, 121, 45, 114, 101, 118, 97, 108, 105, 100, 97, 116, 101]
def nOnly : List UInt8 := [111, 110, 108, 121, 45, 105, 102, 45, 99, 97, 99, 104, 101, 100]
def nMax : List UInt8 := [109, 97, 120, 45, 97, 103, 101]
def nShared : List UInt8 := [115, 45, 109, 97, 120, 97, 103, 101]
def nFresh : List UInt8 := [109, 105, 110, 45, 102, 114, 101, 115, 104]
def nStale : List UInt8 := [109, 97, 120, 45, 115, 116, 97, 108, 101]
/-- One directive, all of a Control at once. -/
def oneV (c : Ctl) (e : ByteArray) : Ctl :=
  ⟨c.s0 || nmIs e nNoStore, c.s1 || nmIs e nNoCache, c.s2 || nmIs e nPrivate, c.s3 || nmIs e nPublic, c.s4 || (nmIs e nMust || nmIs e nProxy), c.s5 || nmIs e nOnly,
   if nmIs e nMax = true then stepL false c.s6 (secE e 0 0) else c.s6, if nmIs e nShared = true then stepL false c.s7 (secE e 0 0) else c.s7,
   if nmIs e nFresh = true then stepL true c.s8 (secE e 2147483648 2147483648) else c.s8, if nmIs e nStale = true then stepL false c.s9 (secE e 0 2147483648) else c.s9⟩
theorem least_step (o n : Int) : leastV o n = stepL false o n := by
  unfold leastV stepL
  by_cases h : o < 0 ∨ n < o
  · rw [if_pos h, if_pos (by rcases h with h | h; exact .inl h; exact .inr (.inr ⟨rfl, h⟩))]
  · rw [if_neg h, if_neg (by rintro (x | ⟨x, _⟩ | ⟨_, x⟩); exact h (.inl x); cases x; exact h (.inr x))]
theorem most_step (o n : Int) (ho : -1 ≤ o) (hn : 0 ≤ n) : mx o n = stepL true o n := by
  unfold mx stepL
  by_cases h : o < n
  · rw [if_pos h, if_pos (.inr (.inl ⟨rfl, h⟩))]
  · rw [if_neg h, if_neg (by rintro (x | ⟨_, x⟩ | ⟨x, _⟩); omega; omega; cases x)]
theorem secE_flat (e : ByteArray) (v : Int) : secV (cutB e) v = secE e v v := by
  unfold secE
  by_cases h : cutH e = true
  · rw [if_pos h]
  · rw [if_neg h, cut_none e (by simpa using h), sec_none]
theorem dir_eval (c : Ctl) (e : ByteArray) (he : e.size ≤ 80000) (hc : -1 ≤ c.s8) (k : Nat) (hk : 2000000 < k) : dirV k c (lowB (cutA e)) (cutB e) (cutH e) = some (oneV c e) ∧ -1 ≤ (oneV c e).s8 := by
  have hsz := (cut_size e 80000 he).2
  have hs : ∀ other, control_seconds.f k (cutB e) other = some (secV (cutB e) other) := fun other => sec_eval _ (by omega) other k hk
  have h8 : 0 ≤ secE e 2147483648 2147483648 := by rw [← secE_flat]; exact sec_range _ _ (by omega)
  have hm : ∀ x, nmIs e x = ((lowB (cutA e)).toList == x) := fun x => rfl
  have hmx : mx c.s8 (secE e 2147483648 2147483648) = stepL true c.s8 (secE e 2147483648 2147483648) := most_step _ _ hc h8
  constructor
  · unfold dirV oneV
    simp only [hs, Option.bind_some, hm, least_step, secE_flat, hmx]
    generalize hnm : (lowB (cutA e)).toList = nm
    by_cases c0 : nm = nNoStore
    · subst c0; simp [nNoStore, nNoCache, nPrivate, nPublic, nMust, nProxy, nOnly, nMax, nShared, nFresh, nStale]
    by_cases c1 : nm = nNoCache
    · subst c1; simp [nNoStore, nNoCache, nPrivate, nPublic, nMust, nProxy, nOnly, nMax, nShared, nFresh, nStale]
    by_cases c2 : nm = nPrivate
    · subst c2; simp [nNoStore, nNoCache, nPrivate, nPublic, nMust, nProxy, nOnly, nMax, nShared, nFresh, nStale]
    by_cases c3 : nm = nPublic
    · subst c3; simp [nNoStore, nNoCache, nPrivate, nPublic, nMust, nProxy, nOnly, nMax, nShared, nFresh, nStale]
    by_cases c4 : nm = nMust
    · subst c4; simp [nNoStore, nNoCache, nPrivate, nPublic, nMust, nProxy, nOnly, nMax, nShared, nFresh, nStale]
    by_cases c5 : nm = nProxy
    · subst c5; simp [nNoStore, nNoCache, nPrivate, nPublic, nMust, nProxy, nOnly, nMax, nShared, nFresh, nStale]
    by_cases c6 : nm = nOnly
    · subst c6; simp [nNoStore, nNoCache, nPrivate, nPublic, nMust, nProxy, nOnly, nMax, nShared, nFresh, nStale]
    by_cases c7 : nm = nMax
    · subst c7; simp [nNoStore, nNoCache, nPrivate, nPublic, nMust, nProxy, nOnly, nMax, nShared, nFresh, nStale]
    by_cases c8 : nm = nShared
    · subst c8; simp [nNoStore, nNoCache, nPrivate, nPublic, nMust, nProxy, nOnly, nMax, nShared, nFresh, nStale]
    by_cases c9 : nm = nFresh
    · subst c9; simp [nNoStore, nNoCache, nPrivate, nPublic, nMust, nProxy, nOnly, nMax, nShared, nFresh, nStale]
    by_cases c10 : nm = nStale
    · subst c10
      unfold secE
      cases cutH e <;> simp [nNoStore, nNoCache, nPrivate, nPublic, nMust, nProxy, nOnly, nMax, nShared, nFresh, nStale]
    have f : ∀ x, nm ≠ x → (nm == x) = false := fun x h => beq_eq_false_iff_ne.2 h
    simp only [f _ c0, f _ c1, f _ c2, f _ c3, f _ c4, f _ c5, f _ c6, f _ c7, f _ c8, f _ c9, f _ c10, Bool.or_false, Bool.false_eq_true, if_false]
    simp only [nNoStore, nNoCache, nPrivate, nPublic, nMust, nProxy, nOnly, nMax, nShared, nFresh, nStale] at c0 c1 c2 c3 c4 c5 c6 c7 c8 c9 c10
    rw [if_neg c0, if_neg c1, if_neg c2, if_neg c3, if_neg c4, if_neg c5, if_neg c6, if_neg c7, if_neg c8, if_neg c9, if_neg c10]
  · unfold oneV
    show -1 ≤ (if nmIs e nFresh = true then stepL true c.s8 (secE e 2147483648 2147483648) else c.s8)
    split
    · unfold stepL
      split <;> omega
    · exact hc
def allC (c : Ctl) (es : List ByteArray) : Ctl := es.foldl oneV c
theorem ofGo_eval (k : Nat) (hk : 2000000 < k) : ∀ (es : List ByteArray) (c : Ctl), (∀ e ∈ es, e.size ≤ 80000) → -1 ≤ c.s8 → ofGo k c es = some (allC c es) := by
  intro es
  induction es with
  | nil => intro c _ _; rfl
  | cons e es ih =>
    intro c hs hc
    obtain ⟨h1, h2⟩ := dir_eval c e (hs e (by simp)) hc k hk
    rw [ofGo, h1]
    simp only [Option.bind_some]
    exact ih _ (fun x hx => hs x (by simp [hx])) h2
theorem allC_eq : ∀ (es : List ByteArray) (c : Ctl), allC c es = ⟨c.s0 || saidV es nNoStore, c.s1 || saidV es nNoCache, c.s2 || saidV es nPrivate, c.s3 || saidV es nPublic, c.s4 || (saidV es nMust || saidV es nProxy), c.s5 || saidV es nOnly, toldV nMax 0 0 false c.s6 es, toldV nShared 0 0 false c.s7 es, toldV nFresh 2147483648 2147483648 true c.s8 es, toldV nStale 0 2147483648 false c.s9 es⟩ := by
  intro es
  induction es with
  | nil => intro c; simp [allC, saidV, toldV]
  | cons e es ih =>
    intro c
    have : allC c (e :: es) = allC (oneV c e) es := rfl
    rw [this, ih]
    simp only [oneV, saidV, List.any_cons, toldV, Ctl.mk.injEq, Bool.or_assoc, and_true, true_and]
    ac_rfl
def ccU : ByteArray := ⟨#[67, 97, 99, 104, 101, 45, 67, 111, 110, 116, 114, 111, 108]⟩
def ccL : ByteArray := ⟨#[99, 97, 99, 104, 101, 45, 99, 111, 110, 116, 114, 111, 108]⟩
def prU : ByteArray := ⟨#[80, 114, 97, 103, 109, 97]⟩
def prL : ByteArray := ⟨#[112, 114, 97, 103, 109, 97]⟩
def ncB : ByteArray := ⟨#[110, 111, 45, 99, 97, 99, 104, 101]⟩
theorem isOf_low (n : ByteArray) : isOf [lowB n] = isOf [n] := by
  funext o
  unfold isOf
  simp only [List.any_cons, List.any_nil, Bool.or_false]
  exact sameB_low n o.f0
theorem allV_low (n : ByteArray) (l : List S40) : allV (lowB n) l = allV n l := by unfold allV; rw [isOf_low]
theorem getB_low (n : ByteArray) (l : List S40) : getB (lowB n) l = getB n l := by unfold getB; rw [allV_low]
theorem elemsB_low (n : ByteArray) (l : List S40) : elemsB (lowB n) l = elemsB n l := by unfold elemsB; rw [getB_low]
def pragV (l : List S40) : Bool := decide ((allV ccU l).length = 0) && ((elemsB prU l).any fun e => sameB e ncB)
def finV (l : List S40) (c : Ctl) : Ctl := if pragV l = true then { c with s1 := true } else c
def ofV (l : List S40) : Ctl := finV l (allC noneC (elemsB ccU l))
theorem end_eval (l : List S40) (h : SmallF l) (c : Ctl) (k : Nat) (hk : 3000100 < k) : ofEnd k l c = some (finV l c) := by
  unfold ofEnd
  have hl := h.1
  have g : field_List_Get.f k l ccU = some (getB ccU l, decide (0 < (allV ccU l).length)) := get_eval ccU l (by decide) h.2 (by omega) k (by omega)
  have g' : field_List_Get.f k l (⟨#[67, 97, 99, 104, 101, 45, 67, 111, 110, 116, 114, 111, 108]⟩ : ByteArray) = some (getB ccU l, decide (0 < (allV ccU l).length)) := g
  have hh : field_List_Has.f k l prU ncB = some ((elemsB prU l).any fun e => sameB e ncB) := has_eval prU ncB l (by decide) (by decide) h k hk
  have hh' : field_List_Has.f k l (⟨#[80, 114, 97, 103, 109, 97]⟩ : ByteArray) (⟨#[110, 111, 45, 99, 97, 99, 104, 101]⟩ : ByteArray) = some ((elemsB prU l).any fun e => sameB e ncB) := hh
  rw [g']
  simp only [Option.bind_some]
  unfold finV pragV
  by_cases h0 : 0 < (allV ccU l).length
  · rw [if_pos (decide_eq_true h0), decide_eq_false (by omega), Bool.false_and, if_neg (by simp)]
  · rw [if_neg (by rw [decide_eq_false h0]; simp), hh', decide_eq_true (by omega), Bool.true_and]
    rfl
theorem of_eval (l : List S40) (h : SmallF l) (k : Nat) (hk : 3000100 < k) : control_Of.f k l = some (ctTup (ofV l)) := by
  unfold control_Of.f
  obtain ⟨e1, e2⟩ := elems_ok ccU l h
  have el : field_List_Elements.f k l (⟨#[67, 97, 99, 104, 101, 45, 67, 111, 110, 116, 114, 111, 108]⟩ : ByteArray) = some (elemsB ccU l) := elems_eval ccU l (by decide) h k hk
  rw [el]
  simp only [Option.bind_some]
  rw [if_pos ⟨by omega, fun e he => by have := e2 e he; omega⟩, ofGo_eval k (by omega) _ noneC e2 (by decide)]
  simp only [Option.bind_some]
  rw [end_eval l h _ k hk]
  rfl

/-! ## Texts of elements, in parts -/
theorem endF_cons {c : UInt8} (l : List UInt8) (h1 : c ≠ 34) (h2 : c ≠ 44) : endL false (c :: l) = 1 + endL false l := by
  cases l with
  | nil => simp [endL, h1, h2]
  | cons d l => simp [endL, h1, h2]
theorem endF_comma (l : List UInt8) : endL false (44 :: l) = 0 := by cases l <;> simp [endL]
theorem endF_quote (l : List UInt8) : endL false (34 :: l) = 1 + endL true l := by cases l <;> simp [endL]
theorem endT_quote (l : List UInt8) : endL true (34 :: l) = 1 + endL false l := by cases l <;> simp [endL]
theorem endT_cons {c : UInt8} (l : List UInt8) (h1 : c ≠ 34) (h2 : c ≠ 92) : endL true (c :: l) = 1 + endL true l := by
  cases l with
  | nil => simp [endL, h1, h2]
  | cons d l => simp [endL, h1, h2]
theorem endF_app : ∀ (a r : List UInt8), (∀ c ∈ a, c ≠ 34 ∧ c ≠ 44) → endL false (a ++ r) = a.length + endL false r := by
  intro a
  induction a with
  | nil => intro r _; simp
  | cons c a ih =>
    intro r h
    obtain ⟨h1, h2⟩ := h c (by simp)
    rw [List.cons_append, endF_cons _ h1 h2, ih r (fun x hx => h x (by simp [hx])), List.length_cons]
    omega
theorem endT_app : ∀ (a r : List UInt8), (∀ c ∈ a, c ≠ 34 ∧ c ≠ 92) → endL true (a ++ r) = a.length + endL true r := by
  intro a
  induction a with
  | nil => intro r _; simp
  | cons c a ih =>
    intro r h
    obtain ⟨h1, h2⟩ := h c (by simp)
    rw [List.cons_append, endT_cons _ h1 h2, ih r (fun x hx => h x (by simp [hx])), List.length_cons]
    omega
def keepL (l : List UInt8) : List (List UInt8) := if trimL l = [] then [] else [trimL l]
theorem listL_nil (k : Nat) : listL k [] = [] := by cases k <;> simp [listL]
theorem trimL_nil : trimL [] = [] := rfl
theorem listL_comma (k : Nat) (a r : List UInt8) (h : endL false (a ++ 44 :: r) = a.length) : listL (k + 1) (a ++ 44 :: r) = keepL a ++ listL k r := by
  rw [listL, if_neg (by simp), h]
  have e1 : (a ++ 44 :: r).take a.length = a := by simp
  have e2 : (a ++ 44 :: r).drop (a.length + 1) = r := by simp
  rw [e1, e2]
  rfl
theorem endF_plain (a r : List UInt8) (h : ∀ c ∈ a, c ≠ 34 ∧ c ≠ 44) : endL false (a ++ 44 :: r) = a.length := by rw [endF_app a _ h, endF_comma]; rfl
theorem listL_last (k : Nat) (a : List UInt8) (h : endL false a = a.length) : listL (k + 1) a = keepL a := by
  rw [listL]
  by_cases h0 : a = []
  · rw [if_pos h0, h0]; simp [keepL, trimL_nil]
  · rw [if_neg h0, h, List.take_length, List.drop_of_length_le (by omega), listL_nil, List.append_nil]
    rfl
theorem trimL_at (b l m m' : List UInt8) (c d : UInt8) (hb : ∀ x ∈ b, [32, 9].contains x = true) (h1 : l = c :: m) (h2 : l = m' ++ [d]) (hc : [32, 9].contains c = false) (hd : [32, 9].contains d = false) : trimL (b ++ l) = l := by
  unfold trimL Lib.trimS Lib.trimRightS Lib.trimLeftS
  have e1 : (b ++ l).reverse = d :: (b ++ m').reverse := by rw [h2]; simp
  rw [e1, List.dropWhile_cons_of_neg (by simpa using hd)]
  have e2 : (d :: (b ++ m').reverse).reverse = b ++ l := by rw [← e1, List.reverse_reverse]
  rw [e2, List.dropWhile_append_of_pos hb, h1, List.dropWhile_cons_of_neg (by simpa using hc)]
theorem keepL_at (b l m m' : List UInt8) (c d : UInt8) (hb : ∀ x ∈ b, [32, 9].contains x = true) (h1 : l = c :: m) (h2 : l = m' ++ [d]) (hc : [32, 9].contains c = false) (hd : [32, 9].contains d = false) : keepL (b ++ l) = [l] := by
  unfold keepL
  rw [trimL_at b l m m' c d hb h1 h2 hc hd, if_neg (by rw [h1]; simp)]
/-! ## A directive, cut at its sign -/
theorem idx_at (c : UInt8) : ∀ (a r : List UInt8), (∀ x ∈ a, x ≠ c) → Lib.indexByte (a ++ c :: r) c = (a.length : Int) := by
  intro a
  induction a with
  | nil => intro r _; simp [Lib.indexByte]
  | cons x a ih =>
    intro r h
    have e := ih r (fun y hy => h y (by simp [hy]))
    rw [List.cons_append]
    unfold Lib.indexByte
    rw [if_neg (by simpa using h x (by simp)), e, if_neg (by first | (simp; done) | (simp; omega)), List.length_cons]
    omega
theorem cut_at (a r : List UInt8) (h : ∀ x ∈ a, x ≠ 61) : cutA (toB (a ++ 61 :: r)) = toB a ∧ cutB (toB (a ++ 61 :: r)) = toB r ∧ cutH (toB (a ++ 61 :: r)) = true := by
  have e : cutI (toB (a ++ 61 :: r)) = (a.length : Int) := by unfold cutI; rw [toB_list]; exact idx_at 61 a r h
  have hz : (toB (a ++ 61 :: r)).size = a.length + 1 + r.length := by rw [size_l, toB_list]; first | (simp; done) | (simp; omega)
  unfold cutA cutB cutH
  rw [e, if_pos (by omega), if_pos (by omega)]
  refine ⟨?_, ?_, decide_eq_true (by omega)⟩
  · rw [← of_list ((toB (a ++ 61 :: r)).extract 0 (Int.toNat (a.length : Int))), ext_l, toB_list]
    simp
  · rw [← of_list ((toB (a ++ 61 :: r)).extract ((a.length : Int) + 1).toNat _), ext_l, toB_list, hz]
    congr 1
    rw [show ((a.length : Int) + 1).toNat = a.length + 1 by omega, show a.length + 1 + r.length - (a.length + 1) = r.length by omega]
    have : (a ++ 61 :: r).drop (a.length + 1) = r := by simp
    rw [this, List.take_length]
theorem of_one (x : S40) (s : List UInt8) (hx : isOf [ccU] x = true) (h1 : x.f1 = toB s) : ofV [x] = allC noneC ((listL (s.length + 1) s).map toB) := by
  have a3 : allV ccU [x] = [toB s] := by unfold allV; rw [List.filter_cons_of_pos hx, ← h1]; rfl
  have j : joinB [toB s] commaB = s := by simp [joinB, Lib.join, toB]
  unfold ofV finV
  rw [if_neg (by unfold pragV; rw [a3]; simp)]
  congr 1
  unfold elemsB getB
  rw [a3, j]
  simp [ByteArray.size]

/-! ## Directives in any order -/
theorem secV_nn (e : ByteArray) (o b : Int) (ho : 0 ≤ o) (hb : 0 ≤ b) : 0 ≤ secE e o b := by
  unfold secE
  split
  · exact sec_range _ _ ho
  · exact hb
theorem step_comm (m : Bool) (o s t : Int) (hs : 0 ≤ s) (ht : 0 ≤ t) : stepL m (stepL m o s) t = stepL m (stepL m o t) s := by
  cases m with
  | true =>
    have h : ∀ x y : Int, stepL true x y = if x < 0 ∨ y > x then y else x := fun x y => by
      unfold stepL
      by_cases h : x < 0 ∨ y > x
      · rw [if_pos h, if_pos (by rcases h with h | h; exact .inl h; exact .inr (.inl ⟨rfl, h⟩))]
      · rw [if_neg h, if_neg (by rintro (z | ⟨_, z⟩ | ⟨z, _⟩); exact h (.inl z); exact h (.inr z); cases z)]
    simp only [h]
    repeat' split
    all_goals omega
  | false =>
    have h : ∀ x y : Int, stepL false x y = if x < 0 ∨ y < x then y else x := fun x y => by
      unfold stepL
      by_cases h : x < 0 ∨ y < x
      · rw [if_pos h, if_pos (by rcases h with h | h; exact .inl h; exact .inr (.inr ⟨rfl, h⟩))]
      · rw [if_neg h, if_neg (by rintro (z | ⟨z, _⟩ | ⟨_, z⟩); exact h (.inl z); cases z; exact h (.inr z))]
    simp only [h]
    repeat' split
    all_goals omega
theorem ite_comm (m : Bool) (p q : Bool) (o s t : Int) (hs : 0 ≤ s) (ht : 0 ≤ t) : (if q = true then stepL m (if p = true then stepL m o s else o) t else (if p = true then stepL m o s else o)) = (if p = true then stepL m (if q = true then stepL m o t else o) s else (if q = true then stepL m o t else o)) := by
  cases p <;> cases q <;> simp
  exact step_comm m o s t hs ht
theorem one_comm (c : Ctl) (x y : ByteArray) : oneV (oneV c x) y = oneV (oneV c y) x := by
  have hx := fun o b ho hb => secV_nn x o b ho hb
  have hy := fun o b ho hb => secV_nn y o b ho hb
  unfold oneV
  simp only [Ctl.mk.injEq]
  have hb : ∀ a p q : Bool, ((a || p) || q) = ((a || q) || p) := by decide
  refine ⟨hb _ _ _, hb _ _ _, hb _ _ _, hb _ _ _, hb _ _ _, hb _ _ _, ite_comm _ _ _ _ _ _ (hx _ _ (by decide) (by decide)) (hy _ _ (by decide) (by decide)), ite_comm _ _ _ _ _ _ (hx _ _ (by decide) (by decide)) (hy _ _ (by decide) (by decide)), ite_comm _ _ _ _ _ _ (hx _ _ (by decide) (by decide)) (hy _ _ (by decide) (by decide)), ite_comm _ _ _ _ _ _ (hx _ _ (by decide) (by decide)) (hy _ _ (by decide) (by decide))⟩
theorem allC_perm (c : Ctl) (l m : List ByteArray) (h : l.Perm m) : allC c l = allC c m := h.foldl_eq' (fun x _ y _ z => one_comm z x y) c
/-! ## Elements of texts without quotes and commas -/
theorem trimL_blank (l : List UInt8) : trimL (32 :: l) = trimL l := by
  unfold trimL Lib.trimS Lib.trimRightS Lib.trimLeftS
  rw [List.reverse_cons, List.dropWhile_append]
  by_cases h : (l.reverse.dropWhile fun c => [32, 9].contains c).isEmpty = true
  · rw [if_pos h, List.isEmpty_iff.1 h]
    rfl
  · rw [if_neg h, List.reverse_append]
    rfl
theorem keepL_blank (l : List UInt8) : keepL (32 :: l) = keepL l := by unfold keepL; rw [trimL_blank]
def PlainB (a : ByteArray) : Prop := ∀ c ∈ a.data.toList, c ≠ 34 ∧ c ≠ 44
def keepA (xs : List ByteArray) : List ByteArray := (xs.flatMap fun a => keepL a.data.toList).map toB
def catL (xs : List ByteArray) : List UInt8 := xs.flatMap fun a => a.data.toList ++ [44]
theorem endF_all (a : List UInt8) (h : ∀ c ∈ a, c ≠ 34 ∧ c ≠ 44) : endL false a = a.length := by
  have := endF_app a [] h
  rw [List.append_nil] at this
  rw [this]
  simp [endL]
theorem list_cat : ∀ (xs : List ByteArray) (k : Nat), (∀ a ∈ xs, PlainB a) → xs.length ≤ k → listL k (catL xs) = xs.flatMap fun a => keepL a.data.toList := by
  intro xs
  induction xs with
  | nil => intro k _ _; simp [catL, listL_nil]
  | cons a xs ih =>
    intro k h hk
    rw [List.length_cons] at hk
    obtain ⟨k, rfl⟩ : ∃ j, k = j + 1 := ⟨k - 1, by omega⟩
    have e : catL (a :: xs) = a.data.toList ++ 44 :: catL xs := by simp [catL]
    rw [e, listL_comma k _ _ (endF_plain _ _ (h a (by simp))), ih k (fun x hx => h x (by simp [hx])) (by omega), List.flatMap_cons]
theorem list_join : ∀ (xs : List ByteArray) (k : Nat) (p : List UInt8), (p = [] ∨ p = [32]) → xs ≠ [] → (∀ a ∈ xs, PlainB a) → xs.length ≤ k → listL k (p ++ joinB xs commaB) = xs.flatMap fun a => keepL a.data.toList := by
  intro xs
  induction xs with
  | nil => intro k p _ h; exact absurd rfl h
  | cons a xs ih =>
    intro k p hp _ h hk
    rw [List.length_cons] at hk
    obtain ⟨k, rfl⟩ : ∃ j, k = j + 1 := ⟨k - 1, by omega⟩
    have ha := h a (by simp)
    have hpl : ∀ c ∈ p ++ a.data.toList, c ≠ 34 ∧ c ≠ 44 := by
      intro c hc
      rcases List.mem_append.1 hc with hc | hc
      · rcases hp with rfl | rfl
        · cases hc
        · obtain rfl := List.mem_singleton.1 hc; decide
      · exact ha c hc
    have kp : keepL (p ++ a.data.toList) = keepL a.data.toList := by
      rcases hp with rfl | rfl
      · rfl
      · exact keepL_blank _
    cases xs with
    | nil =>
      have j : joinB [a] commaB = a.data.toList := by simp [joinB, Lib.join]
      rw [j, listL_last k _ (endF_all _ hpl), kp]
      simp
    | cons b xs =>
      have j : joinB (a :: b :: xs) commaB = a.data.toList ++ 44 :: ([32] ++ joinB (b :: xs) commaB) := by
        have := joinB_app [a] (b :: xs) (by simp) (by simp)
        have j1 : joinB [a] commaB = a.data.toList := by simp [joinB, Lib.join]
        rw [j1] at this
        simpa using this
      rw [j, ← List.append_assoc, listL_comma k _ _ (endF_plain _ _ hpl), kp, ih k [32] (.inr rfl) (by simp) (fun x hx => h x (by simp [hx])) (by omega), List.flatMap_cons (x := a)]

/-! ## ControlMore -/
theorem listL_fuel1 : ∀ (k : Nat) (l : List UInt8), l.length < k → listL (k + 1) l = listL k l := by
  intro k
  induction k with
  | zero => intro l h; omega
  | succ k ih =>
    intro l h
    have e : ∀ m, listL (m + 1) l = if l = [] then [] else (if trimL (l.take (endL false l)) = [] then [] else [trimL (l.take (endL false l))]) ++ listL m (l.drop (endL false l + 1)) := fun m => by rw [listL]
    rw [e (k + 1), e k]
    by_cases h0 : l = []
    · rw [if_pos h0, if_pos h0]
    · rw [if_neg h0, if_neg h0]
      have hl : 0 < l.length := List.length_pos_iff.2 h0
      by_cases hd : (l.drop (endL false l + 1)).length < k
      · rw [ih _ hd]
      · rw [List.length_drop] at hd
        have hk : k = 0 := by omega
        subst hk
        have hz : l.drop (endL false l + 1) = [] := List.drop_of_length_le (by omega)
        rw [hz, listL_nil, listL_nil]
theorem listL_fuel (l : List UInt8) (k : Nat) (h : l.length < k) : ∀ j, listL (k + j) l = listL k l := by
  intro j
  induction j with
  | zero => rfl
  | succ j ih => rw [← Nat.add_assoc, listL_fuel1 (k + j) l (by omega), ih]
theorem listL_any (l : List UInt8) (k m : Nat) (h : l.length < k) (h' : l.length < m) : listL k l = listL m l := by
  have e1 := listL_fuel l (l.length + 1) (by omega) (k - (l.length + 1))
  have e2 := listL_fuel l (l.length + 1) (by omega) (m - (l.length + 1))
  rw [show l.length + 1 + (k - (l.length + 1)) = k by omega] at e1
  rw [show l.length + 1 + (m - (l.length + 1)) = m by omega] at e2
  rw [e1, e2]
theorem first_comma : ∀ (x : List UInt8), 44 ∈ x → ∃ a y, x = a ++ 44 :: y ∧ ∀ c ∈ a, c ≠ 44 := by
  intro x
  induction x with
  | nil => intro h; cases h
  | cons c x ih =>
    intro h
    by_cases hc : c = 44
    · subst hc; exact ⟨[], x, rfl, fun c h => by cases h⟩
    · have hx : 44 ∈ x := by
        rcases List.mem_cons.1 h with h | h
        · exact absurd h.symm hc
        · exact h
      obtain ⟨a, y, rfl, ha⟩ := ih hx
      refine ⟨c :: a, y, rfl, fun d hd => ?_⟩
      rcases List.mem_cons.1 hd with rfl | hd
      · exact hc
      · exact ha d hd
theorem list_app : ∀ (n : Nat) (x r : List UInt8), x.length ≤ n → (∀ c ∈ x, c ≠ 34) → listL ((x ++ 44 :: r).length + 1) (x ++ 44 :: r) = listL (x.length + 1) x ++ listL (r.length + 1) r := by
  intro n
  induction n with
  | zero =>
    intro x r h _
    obtain rfl := List.eq_nil_of_length_eq_zero (by omega : x.length = 0)
    have := listL_comma ((([] : List UInt8) ++ 44 :: r).length) [] r (endF_comma r)
    rw [this, listL_nil]
    have e : keepL [] = [] := by unfold keepL; rw [trimL_nil]; rfl
    rw [e]
    simp only [List.nil_append, List.length_cons]
  | succ n ih =>
    intro x r h hq
    by_cases hc : 44 ∈ x
    · obtain ⟨a, y, rfl, ha⟩ := first_comma x hc
      have haq : ∀ c ∈ a, c ≠ 34 ∧ c ≠ 44 := fun c h => ⟨hq c (by simp [h]), ha c h⟩
      simp only [List.length_append, List.length_cons] at h
      have hy : ∀ c ∈ y, c ≠ 34 := fun c h => hq c (by simp [h])
      have e := ih y r (by omega) hy
      have e1 : (a ++ 44 :: y) ++ 44 :: r = a ++ 44 :: (y ++ 44 :: r) := by simp
      rw [e1, listL_comma _ a (y ++ 44 :: r) (endF_plain _ _ haq), listL_comma _ a y (endF_plain _ _ haq)]
      rw [listL_any (y ++ 44 :: r) (a ++ 44 :: (y ++ 44 :: r)).length ((y ++ 44 :: r).length + 1) (by simp only [List.length_append, List.length_cons]; omega) (by omega), e, listL_any y (a ++ 44 :: y).length (y.length + 1) (by simp only [List.length_append, List.length_cons]; omega) (by omega), List.append_assoc]
    · have hx : ∀ c ∈ x, c ≠ 34 ∧ c ≠ 44 := fun c h => ⟨hq c h, fun e => hc (e ▸ h)⟩
      rw [listL_comma _ x r (endF_plain _ _ hx), listL_last _ x (endF_all x hx)]
      rw [listL_any r (x ++ 44 :: r).length (r.length + 1) (by simp only [List.length_append, List.length_cons]; omega) (by omega)]
def ccF (s : ByteArray) : S40 := ⟨⟨#[67, 97, 99, 104, 101, 45, 67, 111, 110, 116, 114, 111, 108]⟩, s⟩
theorem allV_more (l : List S40) (s : ByteArray) : allV ccU (l ++ [ccF s]) = allV ccU l ++ [s] := by
  have h1 : allV ccU [ccF s] = [s] := by
    unfold allV
    rw [List.filter_cons_of_pos (show isOf [ccU] (ccF s) = true by
      have h2 : sameB ccU (ccF s).f0 = true := (by decide +kernel : sameB ccU ccU = true)
      simpa [isOf] using h2)]
    rfl
  rw [allV_app, h1]
theorem elems_list (n : ByteArray) (l : List S40) : elemsB n l = (listL ((joinB (allV n l) commaB).length + 1) (joinB (allV n l) commaB)).map toB := by
  unfold elemsB getB
  simp [ByteArray.size]
theorem elems_more (l : List S40) (s : ByteArray) (hq : ∀ f ∈ l, ∀ c ∈ f.f1.data.toList, c ≠ 34) : ∃ es, elemsB ccU (l ++ [ccF s]) = elemsB ccU l ++ es := by
  rw [elems_list, elems_list, allV_more]
  by_cases hv : allV ccU l = []
  · rw [hv]
    exact ⟨(listL ((joinB ([] ++ [s]) commaB).length + 1) (joinB ([] ++ [s]) commaB)).map toB, by
      have : joinB ([] : List ByteArray) commaB = [] := rfl
      rw [this, listL_nil]
      rfl⟩
  · have j1 : joinB [s] commaB = s.data.toList := by simp [joinB, Lib.join]
    have hj : joinB (allV ccU l ++ [s]) commaB = joinB (allV ccU l) commaB ++ 44 :: (32 :: s.data.toList) := by
      rw [joinB_app _ [s] hv (by simp), j1]
      simp
    have hqq : ∀ c ∈ joinB (allV ccU l) commaB, c ≠ 34 := by
      have hall : ∀ x ∈ allV ccU l, ∀ c ∈ x.data.toList, c ≠ 34 := by
        intro x hx
        unfold allV at hx
        obtain ⟨f, hf, rfl⟩ := List.mem_map.1 hx
        exact hq f (List.mem_filter.1 hf).1
      have gen : ∀ V : List ByteArray, (∀ x ∈ V, ∀ c ∈ x.data.toList, c ≠ 34) → ∀ c ∈ joinB V commaB, c ≠ 34 := by
        intro V
        induction V with
        | nil => intro _ c hc; cases hc
        | cons x V ih =>
          intro h c hc
          have jx : joinB [x] commaB = x.data.toList := by simp [joinB, Lib.join]
          cases V with
          | nil => rw [jx] at hc; exact h x (by simp) c hc
          | cons y V =>
            have := joinB_app [x] (y :: V) (by simp) (by simp)
            rw [show x :: y :: V = [x] ++ (y :: V) from rfl, this, jx] at hc
            rcases List.mem_append.1 hc with hc | hc
            · exact h x (by simp) c hc
            · rcases List.mem_append.1 hc with hc | hc
              · have h2 : c = 44 ∨ c = 32 := by simpa using hc
                rcases h2 with rfl | rfl <;> decide
              · exact ih (fun z hz => h z (List.mem_cons_of_mem _ hz)) c hc
      exact gen _ hall
    rw [hj, list_app _ _ _ (Nat.le_refl _) hqq, List.map_append]
    exact ⟨_, rfl⟩
theorem told_less (nm : List UInt8) (br : Int) (hb : 0 ≤ br) : ∀ (es : List ByteArray) (o : Int), 0 ≤ o → 0 ≤ toldV nm 0 br false o es ∧ toldV nm 0 br false o es ≤ o := by
  intro es
  induction es with
  | nil => intro o h; exact ⟨h, Int.le_refl _⟩
  | cons e es ih =>
    intro o h
    rw [toldV]
    have hs := secV_nn e 0 br (by omega) hb
    by_cases hn : nmIs e nm = true
    · rw [if_pos hn]
      have h1 : 0 ≤ stepL false o (secE e 0 br) ∧ stepL false o (secE e 0 br) ≤ o := by
        unfold stepL
        split
        · rename_i h2
          rcases h2 with h2 | ⟨h2, _⟩ | ⟨_, h2⟩
          · omega
          · cases h2
          · omega
        · omega
      have := ih _ h1.1
      omega
    · rw [if_neg hn]
      exact ih o h
theorem told_more (nm : List UInt8) (ot br : Int) (ho : 0 ≤ ot) (hb : 0 ≤ br) : ∀ (es : List ByteArray) (o : Int), o ≤ toldV nm ot br true o es := by
  intro es
  induction es with
  | nil => intro o; exact Int.le_refl _
  | cons e es ih =>
    intro o
    rw [toldV]
    have hs := secV_nn e ot br ho hb
    by_cases hn : nmIs e nm = true
    · rw [if_pos hn]
      have h1 : o ≤ stepL true o (secE e ot br) := by
        unfold stepL
        split
        · rename_i h2
          rcases h2 with h2 | ⟨_, h2⟩ | ⟨h2, _⟩
          · omega
          · omega
          · cases h2
        · omega
      have := ih (stepL true o (secE e ot br))
      omega
    · rw [if_neg hn]
      exact ih o
theorem less_told (nm : List UInt8) (br : Int) (hb : 0 ≤ br) (o : Int) (es : List ByteArray) : lessB o (toldV nm 0 br false o es) = true := by
  unfold lessB
  by_cases h : o < 0
  · exact decide_eq_true (.inl h)
  · exact decide_eq_true (.inr (told_less nm br hb es o (by omega)))
theorem more_ctl (c : Ctl) (es : List ByteArray) (a1 : Bool) (h1 : a1 = false ∨ a1 = c.s1) :
    moreOk c.s0 a1 c.s2 c.s3 c.s4 c.s5 c.s6 c.s7 c.s8 c.s9 (allC c es).s0 (allC c es).s1 (allC c es).s2 (allC c es).s3 (allC c es).s4 (allC c es).s5 (allC c es).s6 (allC c es).s7 (allC c es).s8 (allC c es).s9 = true := by
  have imp : ∀ a b : Bool, (!a || (a || b)) = true := by decide
  have imp1 : ∀ b : Bool, (!a1 || (c.s1 || b)) = true := fun b => by
    rcases h1 with rfl | rfl
    · rfl
    · exact imp _ _
  rw [allC_eq]
  unfold moreOk
  simp only
  rw [imp, imp1, imp, imp, imp, imp, less_told nMax 0 (by omega), less_told nShared 0 (by omega), less_told nStale 2147483648 (by omega), decide_eq_true (told_more nFresh 2147483648 2147483648 (by omega) (by omega) es c.s8)]
  rfl
theorem more_fin (l : List S40) (s : ByteArray) (hq : ∀ f ∈ l, ∀ c ∈ f.f1.data.toList, c ≠ 34) (a1 : Bool) (h1 : a1 = false ∨ (0 < (allV ccU l).length ∧ a1 = (ofV l).s1)) :
    moreOk (ofV l).s0 a1 (ofV l).s2 (ofV l).s3 (ofV l).s4 (ofV l).s5 (ofV l).s6 (ofV l).s7 (ofV l).s8 (ofV l).s9 (ofV (l ++ [ccF s])).s0 (ofV (l ++ [ccF s])).s1 (ofV (l ++ [ccF s])).s2 (ofV (l ++ [ccF s])).s3 (ofV (l ++ [ccF s])).s4 (ofV (l ++ [ccF s])).s5 (ofV (l ++ [ccF s])).s6 (ofV (l ++ [ccF s])).s7 (ofV (l ++ [ccF s])).s8 (ofV (l ++ [ccF s])).s9 = true := by
  obtain ⟨es, he⟩ := elems_more l s hq
  have hb : ofV (l ++ [ccF s]) = allC (allC noneC (elemsB ccU l)) es := by
    unfold ofV finV
    rw [if_neg (by unfold pragV; rw [allV_more]; simp), he]
    unfold allC
    rw [List.foldl_append]
  have fs : ∀ c : Ctl, (finV l c).s0 = c.s0 ∧ (finV l c).s2 = c.s2 ∧ (finV l c).s3 = c.s3 ∧ (finV l c).s4 = c.s4 ∧ (finV l c).s5 = c.s5 ∧ (finV l c).s6 = c.s6 ∧ (finV l c).s7 = c.s7 ∧ (finV l c).s8 = c.s8 ∧ (finV l c).s9 = c.s9 := fun c => by
    unfold finV
    split <;> exact ⟨rfl, rfl, rfl, rfl, rfl, rfl, rfl, rfl, rfl⟩
  have ha : ofV l = finV l (allC noneC (elemsB ccU l)) := rfl
  have h1' : a1 = false ∨ a1 = (allC noneC (elemsB ccU l)).s1 := by
    rcases h1 with h | ⟨h, h2⟩
    · exact .inl h
    · refine .inr ?_
      rw [h2, ha]
      unfold finV
      rw [if_neg (by unfold pragV; rw [decide_eq_false (show ¬ (allV ccU l).length = 0 by omega)]; simp)]
  obtain ⟨f0, f2, f3, f4, f5, f6, f7, f8, f9⟩ := fs (allC noneC (elemsB ccU l))
  rw [hb, ha, f0, f2, f3, f4, f5, f6, f7, f8, f9]
  exact more_ctl _ es a1 h1'
section
variable (l : List S40) (a0 a1 a2 a3 a4 a5 : Bool) (a6 a7 a8 a9 : Int) (b0 b1 b2 b3 b4 b5 : Bool) (b6 b7 b8 b9 : Int)
theorem more_l1 (v nm : ByteArray) (hv : v.size ≤ 1100) (I : Int) (K : Nat) (rest : (∀ c ∈ v.data.toList, c ≠ 34) → ∀ k, K ≤ k → pantrylaw04_ControlMore.l0 k l l (l.length : Int) (wrap64 (I + 1)) a0 a1 a2 a3 a4 a5 a6 a7 a8 a9 b0 b1 b2 b3 b4 b5 b6 b7 b8 b9 = some true) :
    ∀ (d i k : Nat), i + d = v.size → K + d < k → (∀ c ∈ v.data.toList.take i, c ≠ 34) → pantrylaw04_ControlMore.l1 k l l (l.length : Int) I (v.size : Int) (i : Int) a0 a1 a2 a3 a4 a5 a6 a7 a8 a9 b0 b1 b2 b3 b4 b5 b6 b7 b8 b9 nm v = some true := by
  intro d
  induction d with
  | zero =>
    intro i k hi hk hq
    obtain ⟨k, rfl⟩ : ∃ j, k = j + 1 := ⟨k - 1, by omega⟩
    rw [List.take_of_length_le (by rw [← size_l]; omega)] at hq
    simp only [pantrylaw04_ControlMore.l1]
    rw [if_neg (by omega)]
    exact rest hq k (by omega)
  | succ d ih =>
    intro i k hi hk hq
    obtain ⟨k, rfl⟩ : ∃ j, k = j + 1 := ⟨k - 1, by omega⟩
    have hlt : i < v.data.toList.length := by rw [← size_l]; omega
    simp only [pantrylaw04_ControlMore.l1]
    rw [if_pos (by omega), if_pos (by omega), if_pos (by omega), bt_at2 v i hlt]
    by_cases hc : ((v.data.toList[i]).toNat : Int) = 34
    · rw [if_pos hc]
    · rw [if_neg hc, w64n (by omega) (by omega)]
      have := ih (i + 1) k (by omega) (by omega) (fun c hcm => by
        rw [List.take_succ_eq_append_getElem hlt] at hcm
        rcases List.mem_append.1 hcm with hcm | hcm
        · exact hq c hcm
        · obtain rfl := List.mem_singleton.1 hcm
          exact fun e => hc (by rw [e]; rfl))
      rwa [show ((i + 1 : Nat) : Int) = (i : Int) + 1 by omega] at this
theorem more_l0 (h : SmallF l) (fin : (∀ f ∈ l, ∀ c ∈ f.f1.data.toList, c ≠ 34) → (if 0 < (allV ccU l).length then (if moreOk a0 a1 a2 a3 a4 a5 a6 a7 a8 a9 b0 b1 b2 b3 b4 b5 b6 b7 b8 b9 = true then some true else none) else (if moreOk a0 false a2 a3 a4 a5 a6 a7 a8 a9 b0 b1 b2 b3 b4 b5 b6 b7 b8 b9 = true then some true else none)) = some true) :
    ∀ (d i k : Nat), i + d = l.length → 3000 + d * 2000 < k → (∀ f ∈ l.take i, ∀ c ∈ f.f1.data.toList, c ≠ 34) → pantrylaw04_ControlMore.l0 k l l (l.length : Int) (i : Int) a0 a1 a2 a3 a4 a5 a6 a7 a8 a9 b0 b1 b2 b3 b4 b5 b6 b7 b8 b9 = some true := by
  have hll := h.1
  intro d
  induction d with
  | zero =>
    intro i k hi hk hq
    obtain ⟨k, rfl⟩ : ∃ j, k = j + 1 := ⟨k - 1, by omega⟩
    rw [List.take_of_length_le (by omega)] at hq
    have g : field_List_Get.f k l (⟨#[67, 97, 99, 104, 101, 45, 67, 111, 110, 116, 114, 111, 108]⟩ : ByteArray) = some (getB ccU l, decide (0 < (allV ccU l).length)) := get_eval ccU l (by decide) h.2 (by omega) k (by omega)
    have f := fin hq
    simp only [pantrylaw04_ControlMore.l0]
    rw [if_neg (by omega), g]
    simp only [Option.bind_some]
    by_cases hc : 0 < (allV ccU l).length
    · rw [if_pos hc] at f
      rw [if_pos (decide_eq_true hc)]
      exact f
    · rw [if_neg hc] at f
      rw [if_neg (by rw [decide_eq_false hc]; simp)]
      exact f
  | succ d ih =>
    intro i k hi hk hq
    obtain ⟨k, rfl⟩ : ∃ j, k = j + 1 := ⟨k - 1, by omega⟩
    have hlt : i < l.length := by omega
    have hx := h.2 _ (List.getElem_mem hlt)
    simp only [pantrylaw04_ControlMore.l0]
    rw [if_pos (by omega), if_pos (by omega), if_pos (by omega), rd39 l i hlt]
    refine more_l1 l a0 a1 a2 a3 a4 a5 a6 a7 a8 a9 b0 b1 b2 b3 b4 b5 b6 b7 b8 b9 l[i].f1 l[i].f0 (by omega) (i : Int) (3001 + d * 2000) (fun hv k' hk' => ?_) l[i].f1.size 0 k (Nat.zero_add _) (by omega) (by simp)
    rw [show wrap64 ((i : Int) + 1) = (i : Int) + 1 from w64n (by clear fin ih; omega) (by clear fin ih; omega)]
    have hk2 : 3000 + d * 2000 < k' := by
      clear ih fin hk hv hq hx
      generalize d * 2000 = z at *
      exact Nat.lt_of_lt_of_le (Nat.add_lt_add_right (by decide) z) hk'
    have := ih (i + 1) k' (by omega) hk2 (fun f hf => by
      rw [List.take_succ_eq_append_getElem hlt] at hf
      rcases List.mem_append.1 hf with hf | hf
      · exact hq f hf
      · obtain rfl := List.mem_singleton.1 hf
        exact hv)
    rwa [show ((i + 1 : Nat) : Int) = (i : Int) + 1 by omega] at this
end
theorem law_ControlMore (l : List S40) (s : ByteArray) (hl : l.length ≤ 9223372036854775807) : ∃ k, pantrylaw04_ControlMore.f k l s = some true := by
  obtain ⟨K, hK⟩ : ∃ K, l.length + 6000000 ≤ K := ⟨_, Nat.le_refl _⟩
  refine ⟨K + 1, ?_⟩
  have jt : pantrylaw04_ControlMore.j0 (K + 1) l s true = some true := by simp [pantrylaw04_ControlMore.j0]
  unfold pantrylaw04_ControlMore.f
  rw [anchor_ok _ (by omega)]
  simp only [Option.bind_some]
  rw [if_pos trivial]
  obtain ⟨b, hb, hs⟩ := small_eval l hl (K + 1) (by omega)
  rw [hb]
  simp only [Option.bind_some]
  cases b with
  | false => rw [if_neg (by simp)]; exact jt
  | true =>
    rw [if_pos rfl]
    by_cases c1 : (s.size : Int) > 200
    · rw [decide_eq_true c1]; exact jt
    · rw [decide_eq_false c1]
      have sp := hs rfl
      have s0 := sp.F
      have hll := sp.1
      have m : SmallF (l ++ [ccF s]) := ⟨by rw [List.length_append, List.length_singleton]; omega, fun f hf => by
        rcases List.mem_append.1 hf with hf | hf
        · exact s0.2 f hf
        · obtain rfl := List.mem_singleton.1 hf
          exact ⟨(by decide : ccU.size ≤ 200), by show s.size ≤ 1100; omega⟩⟩
      have e2 : control_Of.f K (l ++ [(⟨(⟨#[67, 97, 99, 104, 101, 45, 67, 111, 110, 116, 114, 111, 108]⟩ : ByteArray), s⟩ : S40)]) = some (ctTup (ofV (l ++ [ccF s]))) := of_eval _ m K (by omega)
      simp only [pantrylaw04_ControlMore.j0]
      rw [if_neg (by simp), of_eval l s0 K (by omega)]
      simp only [Option.bind_some, List.length_nil, List.nil_append]
      rw [if_pos (by omega), if_pos (by omega), e2]
      simp only [Option.bind_some]
      refine more_l0 l _ _ _ _ _ _ _ _ _ _ _ _ _ _ _ _ _ _ _ _ s0 (fun hq => ?_) l.length 0 K (Nat.zero_add _) (by omega) (by simp)
      by_cases hc : 0 < (allV ccU l).length
      · rw [if_pos hc]
        exact if_pos (more_fin l s hq _ (.inr ⟨hc, rfl⟩))
      · rw [if_neg hc]
        exact if_pos (more_fin l s hq false (.inl rfl))

end Go.Proofs.YtboeabdfnijaaaaDoor.PAll
