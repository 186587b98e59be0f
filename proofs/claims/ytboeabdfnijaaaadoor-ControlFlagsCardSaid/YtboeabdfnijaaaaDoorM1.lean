import Derived.Test.YtboeabdfnijaaaaDoorPAllx0
import Derived.Test.YtboeabdfnijaaaaDoorPAllx1
import Derived.Test.YtboeabdfnijaaaaDoorPAllx2
import Derived.Test.YtboeabdfnijaaaaDoorPAllx3
import Derived.Test.YtboeabdfnijaaaaDoorPAllx4
import Derived.Test.YtboeabdfnijaaaaDoorPAllx5
import Derived.Test.YtboeabdfnijaaaaDoorPAllx6
import Derived.Lib.Join
namespace Go.Proofs.YtboeabdfnijaaaaDoor.PAll
open Go.RowKit Go.Proofs.YtboeabdfnijaaaaDoorW.PrintWords Go.Proofs.YtboeabdfnijaaaaDoorW.PrintLast Go.Proofs.YtboeabdfnijaaaaDoorW.PrintMore
set_option linter.unusedVariables false
set_option linter.unusedSimpArgs false

theorem lowB_list (s : ByteArray) : (lowB s).data.toList = lowL s.data.toList := by simp [lowB]

theorem bt_at2 (s : ByteArray) (i : Nat) (h : i < s.data.toList.length) : bt s (i : Int) = ((s.data.toList[i]).toNat : Int) := by
  have h' : i < s.size := by simpa using h
  unfold bt
  simp only [Int.toNat_natCast]
  rw [dif_pos h']
  rfl

/-! What Without comes to (where With is not printed) -/
def isOf (ns : List ByteArray) (o : S40) : Bool := ns.any fun n => sameB n o.f0
def wout (ns : List ByteArray) (l : List S40) : List S40 := l.filter fun o => !isOf ns o
theorem w64n {x : Int} (h0 : -9223372036854775808 ≤ x) (h1 : x ≤ 9223372036854775807) : wrap64 x = x := by unfold wrap64; omega

/-! ## Fields, as lists -/
theorem anchor60 : pantrylaw04_anchor.f 60 = some true := by decide +kernel
theorem anchor_ok (k : Nat) (hk : 60 ≤ k) : pantrylaw04_anchor.f k = some true := by
  obtain ⟨j, rfl⟩ : ∃ j, k = 60 + j := ⟨k - 60, by omega⟩
  clear hk
  induction j with
  | zero => exact anchor60
  | succ j ih => exact pantrylaw04_anchor.mono _ _ ih
theorem rd39 (l : List S40) (i : Nat) (h : i < l.length) : rd_T40 l (i : Int) = l[i] := by simp [rd_T40, h]
theorem rdB (l : List ByteArray) (i : Nat) (h : i < l.length) : rdOf ByteArray.empty l (i : Int) = l[i] := by simp [rdOf, h]
def SmallF (l : List S40) : Prop := l.length ≤ 70 ∧ ∀ f ∈ l, f.f0.size ≤ 200 ∧ f.f1.size ≤ 1100
def SmallP (l : List S40) : Prop := l.length ≤ 30 ∧ ∀ f ∈ l, f.f0.size ≤ 100 ∧ f.f1.size ≤ 300
theorem SmallP.F {l : List S40} (h : SmallP l) : SmallF l := ⟨by have := h.1; omega, fun f hf => by have := h.2 f hf; omega⟩

/-! ## All, Get, Same -/
def allV (n : ByteArray) (l : List S40) : List ByteArray := (l.filter (isOf [n])).map (·.f1)
theorem all_l0 (n : ByteArray) (l : List S40) (hn : n.size ≤ 140737488351232) (hl : ∀ x ∈ l, x.f0.size ≤ 140737488351232) (hlen : l.length < 4398046511104) :
    ∀ (d i : Nat) (acc : List ByteArray) (k : Nat), i + d = l.length → acc.length ≤ i → d < k →
    field_List_All.l0 k n acc l (l.length : Int) (i : Int) = some (acc ++ allV n (l.drop i)) := by
  intro d
  induction d with
  | zero =>
    intro i acc k hi ha hk
    obtain ⟨k, rfl⟩ : ∃ j, k = j + 1 := ⟨k - 1, by omega⟩
    simp only [field_List_All.l0]
    rw [if_neg (by omega), List.drop_of_length_le (by omega)]
    simp [allV]
  | succ d ih =>
    intro i acc k hi ha hk
    obtain ⟨k, rfl⟩ : ∃ j, k = j + 1 := ⟨k - 1, by omega⟩
    have hlt : i < l.length := by omega
    simp only [field_List_All.l0]
    rw [if_pos (by omega), if_pos (by omega), if_pos (by omega), rd39 l i hlt]
    unfold field_Field_named.f
    rw [if_pos ⟨hl _ (List.getElem_mem hlt), by simp, by simpa using hn⟩]
    simp only [Option.bind_some]
    rw [List.drop_eq_getElem_cons hlt, w64n (by omega) (by omega)]
    by_cases hs : isOf [n] l[i] = true
    · have hs' : ([n].any fun n => sameB n l[i].f0) = true := hs
      rw [if_pos hs', if_pos (by omega)]
      have := ih (i + 1) (acc ++ [l[i].f1]) k (by omega) (by simp; omega) (by omega)
      rw [show ((i + 1 : Nat) : Int) = (i : Int) + 1 by omega] at this
      rw [this]
      unfold allV
      rw [List.filter_cons_of_pos hs, List.append_assoc]
      rfl
    · have hs' : ¬ ([n].any fun n => sameB n l[i].f0) = true := hs
      rw [if_neg hs']
      have := ih (i + 1) acc k (by omega) (by omega) (by omega)
      rw [show ((i + 1 : Nat) : Int) = (i : Int) + 1 by omega] at this
      rw [this]
      unfold allV
      rw [List.filter_cons_of_neg hs]
theorem all_eval (n : ByteArray) (l : List S40) (hn : n.size ≤ 140737488351232) (hl : ∀ x ∈ l, x.f0.size ≤ 140737488351232) (hlen : l.length < 4398046511104) (k : Nat) (hk : l.length < k) : field_List_All.f k l n = some (allV n l) := by
  unfold field_List_All.f
  have := all_l0 n l hn hl hlen l.length 0 [] k (by omega) (by simp) hk
  simpa using this
theorem inter_len (sep : List UInt8) (M : Nat) : ∀ (xs : List (List UInt8)), (∀ x ∈ xs, x.length ≤ M) → (sep.intercalate xs).length ≤ xs.length * (M + sep.length) := by
  intro xs
  induction xs with
  | nil => intro _; simp [List.intercalate]
  | cons x xs ih =>
    intro h
    have h1 := h x (by simp)
    have h2 := ih (fun y hy => h y (by simp [hy]))
    cases xs with
    | nil => simp [List.intercalate]; omega
    | cons y ys =>
      have e : sep.intercalate (x :: y :: ys) = x ++ (sep ++ sep.intercalate (y :: ys)) := by simp [List.intercalate]
      rw [e]
      simp only [List.length_append, List.length_cons, Nat.add_mul, Nat.one_mul] at *
      omega
theorem get_eval (n : ByteArray) (l : List S40) (hn : n.size ≤ 140737488351232) (hs : ∀ x ∈ l, x.f0.size ≤ 200 ∧ x.f1.size ≤ 1100) (hlen : l.length ≤ 1000000) (k : Nat) (hk : l.length < k) :
    field_List_Get.f k l n = some (⟨(joinB (allV n l) ⟨#[44, 32]⟩).toArray⟩, decide (0 < (allV n l).length)) := by
  unfold field_List_Get.f
  rw [all_eval n l hn (fun x hx => by have := (hs x hx).1; omega) (by omega) k hk]
  simp only [Option.bind_some]
  have hle : (allV n l).length ≤ l.length := by
    unfold allV
    rw [List.length_map]
    exact List.length_filter_le _ _
  have hok : joinOk (allV n l) ⟨#[44, 32]⟩ := by
    refine ⟨by omega, ?_⟩
    unfold joinB Lib.join
    have := inter_len (⟨#[44, 32]⟩ : ByteArray).data.toList 1100 ((allV n l).map (·.data.toList)) (fun x hx => by
      obtain ⟨y, hy, rfl⟩ := List.mem_map.1 hx
      unfold allV at hy
      obtain ⟨f, hf, rfl⟩ := List.mem_map.1 hy
      have := (hs f (List.mem_filter.1 hf).1).2
      simpa using this)
    rw [List.length_map] at this
    have h2 : ((⟨#[44, 32]⟩ : ByteArray).data.toList).length = 2 := rfl
    rw [h2] at this
    have : (allV n l).length * (1100 + 2) ≤ 1000000 * 1102 := Nat.mul_le_mul_right _ (by omega)
    omega
  unfold strings_Join.f
  rw [if_pos hok]
  simp only [Option.bind_some]
  congr 2
  rw [decide_eq_decide]
  omega

/-! ## FieldParts -/
theorem inter_app (sep : List UInt8) : ∀ (A B : List (List UInt8)), A ≠ [] → B ≠ [] → sep.intercalate (A ++ B) = sep.intercalate A ++ (sep ++ sep.intercalate B) := by
  intro A
  induction A with
  | nil => intro B h; exact absurd rfl h
  | cons x A ih =>
    intro B _ hB
    cases A with
    | nil =>
      cases B with
      | nil => exact absurd rfl hB
      | cons y ys => simp [List.intercalate]
    | cons z A =>
      have := ih B (by simp) hB
      have e1 : sep.intercalate (x :: z :: A) = x ++ (sep ++ sep.intercalate (z :: A)) := by simp [List.intercalate]
      have e2 : sep.intercalate (x :: z :: A ++ B) = x ++ (sep ++ sep.intercalate (z :: A ++ B)) := by simp [List.intercalate]
      rw [e1, e2, this]
      simp
def commaB : ByteArray := ⟨#[44, 32]⟩
def getB (n : ByteArray) (l : List S40) : ByteArray := ⟨(joinB (allV n l) commaB).toArray⟩
theorem getB_list (n : ByteArray) (l : List S40) : (getB n l).toList = joinB (allV n l) commaB := by
  rw [ByteArray.toList_eq]
  simp [getB]
theorem allV_app (n : ByteArray) (a b : List S40) : allV n (a ++ b) = allV n a ++ allV n b := by
  unfold allV
  rw [List.filter_append, List.map_append]
theorem joinB_app (A B : List ByteArray) (hA : A ≠ []) (hB : B ≠ []) : joinB (A ++ B) commaB = joinB A commaB ++ ([44, 32] ++ joinB B commaB) := by
  unfold joinB Lib.join
  rw [List.map_append]
  exact inter_app _ _ _ (by simpa using hA) (by simpa using hB)
theorem getB_size (n : ByteArray) (l : List S40) (h : SmallF l) : (getB n l).size ≤ 80000 := by
  have hle : (allV n l).length ≤ l.length := by
    unfold allV
    rw [List.length_map]
    exact List.length_filter_le _ _
  have := inter_len commaB.data.toList 1100 ((allV n l).map (·.data.toList)) (fun x hx => by
    obtain ⟨y, hy, rfl⟩ := List.mem_map.1 hx
    unfold allV at hy
    obtain ⟨f, hf, rfl⟩ := List.mem_map.1 hy
    have := (h.2 f (List.mem_filter.1 hf).1).2
    simpa using this)
  rw [List.length_map] at this
  have h2 : (commaB.data.toList).length = 2 := rfl
  rw [h2] at this
  have h3 : (allV n l).length * (1100 + 2) ≤ 70 * 1102 := Nat.mul_le_mul_right _ (by have := h.1; omega)
  have h4 : (getB n l).size = (joinB (allV n l) commaB).length := by
    show (joinB (allV n l) commaB).toArray.size = _
    simp
  rw [h4]
  show (List.intercalate _ _).length ≤ _
  omega

/-! ## Lists of elements -/
def endL : Bool → List UInt8 → Nat
  | _, [] => 0
  | q, [c] => if c = 34 then 1 else if q = true ∧ c = 92 then 1 else if q = false ∧ c = 44 then 0 else 1
  | q, c :: d :: l => if c = 34 then 1 + endL (!q) (d :: l) else if q = true ∧ c = 92 then 2 + endL q l else if q = false ∧ c = 44 then 0 else 1 + endL q (d :: l)
theorem endL_le : ∀ (n : Nat) (l : List UInt8) (q : Bool), l.length ≤ n → endL q l ≤ l.length := by
  intro n
  induction n with
  | zero =>
    intro l q h
    obtain rfl := List.eq_nil_of_length_eq_zero (by omega : l.length = 0)
    simp [endL]
  | succ n ih =>
    intro l q h
    match l, h with
    | [], _ => simp [endL]
    | [c], _ =>
      unfold endL
      simp only [List.length_cons, List.length_nil]
      split
      · omega
      · split
        · omega
        · split <;> omega
    | c :: d :: l, h =>
      simp only [List.length_cons] at h
      have h1 := ih (d :: l) (!q) (by simp; omega)
      have h2 := ih l q (by omega)
      have h3 := ih (d :: l) q (by simp; omega)
      unfold endL
      simp only [List.length_cons] at *
      split
      · omega
      · split
        · omega
        · split <;> omega
theorem u8_eq (c d : UInt8) : ((c.toNat : Int) = (d.toNat : Int)) ↔ c = d := by
  constructor
  · intro h
    exact UInt8.toNat_inj.1 (by omega)
  · rintro rfl; rfl
theorem end_past (s : ByteArray) (q : Bool) (i : Nat) (h : s.size ≤ i) (k : Nat) (hk : 0 < k) : sign_end.l0 k s q (i : Int) = some (s.size : Int) := by
  obtain ⟨k, rfl⟩ : ∃ j, k = j + 1 := ⟨k - 1, by omega⟩
  simp only [sign_end.l0]
  rw [if_neg (by omega)]
theorem end_l0 (s : ByteArray) (hs : s.size ≤ 1000000000) : ∀ (d i k : Nat) (q : Bool), i + d = s.size → 2 * d + 1 < k → sign_end.l0 k s q (i : Int) = some ((i + endL q (s.data.toList.drop i) : Nat) : Int) := by
  intro d
  induction d using Nat.strongRecOn with
  | _ d ih =>
    intro i k q hi hk
    have hz : s.data.toList.length = s.size := by simp
    cases d with
    | zero =>
      rw [end_past s q i (by omega) k (by omega), List.drop_of_length_le (by omega)]
      simp only [endL]
      congr 2
      omega
    | succ d =>
      obtain ⟨k, rfl⟩ : ∃ j, k = j + 1 := ⟨k - 1, by omega⟩
      have hlt : i < s.data.toList.length := by omega
      have n1 : ∀ (kk : Nat), 2 * d + 1 < kk → ∀ (q : Bool), sign_end.l0 kk s q ((i : Int) + 1) = some ((i + 1 + endL q (s.data.toList.drop (i + 1)) : Nat) : Int) := fun kk hkk q => by
        have := ih d (by omega) (i + 1) kk q (by omega) hkk
        rwa [show ((i + 1 : Nat) : Int) = (i : Int) + 1 by omega] at this
      have n2 : d = 0 ∨ 0 < d ∧ ∀ (kk : Nat), 2 * d < kk → ∀ (q : Bool), sign_end.l0 kk s q ((i : Int) + 1 + 1) = some ((i + 2 + endL q (s.data.toList.drop (i + 2)) : Nat) : Int) := by
        rcases Nat.eq_zero_or_pos d with h | h
        · exact .inl h
        · refine .inr ⟨h, fun kk hkk q => ?_⟩
          have := ih (d - 1) (by omega) (i + 2) kk q (by omega) (by omega)
          rwa [show ((i + 2 : Nat) : Int) = (i : Int) + 1 + 1 by omega] at this
      simp only [sign_end.l0]
      have hbt := bt_at2 s i hlt
      rw [if_pos (by omega), if_pos (by omega), hbt, w64n (by omega) (by omega)]
      rw [List.drop_eq_getElem_cons hlt]
      have e34 : ((s.data.toList[i]).toNat : Int) = 34 ↔ s.data.toList[i] = 34 := u8_eq _ 34
      have e92 : ((s.data.toList[i]).toNat : Int) = 92 ↔ s.data.toList[i] = 92 := u8_eq _ 92
      have e44 : ((s.data.toList[i]).toNat : Int) = 44 ↔ s.data.toList[i] = 44 := u8_eq _ 44
      generalize s.data.toList[i] = c at *
      have hstep : ∀ (q q' : Bool), endL q (c :: s.data.toList.drop (i + 1)) = 1 + endL q' (s.data.toList.drop (i + 1)) → some ((i + 1 + endL q' (s.data.toList.drop (i + 1)) : Nat) : Int) = some ((i + endL q (c :: s.data.toList.drop (i + 1)) : Nat) : Int) := by
        intro q q' h
        rw [h]
        congr 2
        omega
      by_cases h1 : c = 34
      · rw [if_pos (e34.2 h1), n1 _ (by omega)]
        refine hstep _ _ ?_
        subst h1
        cases s.data.toList.drop (i + 1) <;> simp [endL]
      · rw [if_neg (fun h => h1 (e34.1 h))]
        cases q with
        | true =>
          rw [if_pos rfl]
          obtain ⟨k, rfl⟩ : ∃ j, k = j + 1 := ⟨k - 1, by omega⟩
          simp only [sign_end.j1]
          by_cases h2 : c = 92
          · have hb : (((c.toNat : Int)) == 92) = true := beq_iff_eq.2 (e92.2 h2)
            rw [hb, if_pos rfl, w64n (x := (i : Int) + 1) (by omega) (by omega), w64n (by omega) (by omega)]
            rcases n2 with rfl | ⟨hd0, n2⟩
            · have := end_past s true (i + 2) (by omega) k (by omega)
              rw [show ((i + 2 : Nat) : Int) = (i : Int) + 1 + 1 by omega] at this
              rw [this, List.drop_of_length_le (by omega)]
              subst h2
              have e1 : endL true [(92 : UInt8)] = 1 := by decide
              rw [e1]
              exact congrArg some (by omega)
            · rw [n2 _ (by omega)]
              subst h2
              cases hd : s.data.toList.drop (i + 1) with
              | nil =>
                have := congrArg List.length hd
                rw [List.length_drop] at this
                simp only [List.length_nil] at this
                omega
              | cons x l =>
                have e2 : s.data.toList.drop (i + 2) = l := by
                  have := congrArg (List.drop 1) hd
                  rw [List.drop_drop] at this
                  simpa using this
                rw [e2]
                have e1 : endL true ((92 : UInt8) :: x :: l) = 2 + endL true l := by simp [endL]
                rw [e1]
                exact congrArg some (by omega)
          · have hb : (((c.toNat : Int)) == 92) = false := beq_eq_false_iff_ne.2 (fun h => h2 (e92.1 h))
            rw [hb, if_neg (by simp), if_pos trivial, w64n (by omega) (by omega), n1 _ (by omega)]
            refine hstep _ _ ?_
            cases s.data.toList.drop (i + 1) <;> simp [endL, h1, h2]
        | false =>
          rw [if_neg (by simp)]
          obtain ⟨k, rfl⟩ : ∃ j, k = j + 1 := ⟨k - 1, by omega⟩
          simp only [sign_end.j1]
          rw [if_neg (by simp), if_neg (by simp), if_pos (by omega), if_pos (by omega), hbt]
          by_cases h3 : c = 44
          · rw [if_pos (e44.2 h3)]
            subst h3
            cases s.data.toList.drop (i + 1) <;> simp [endL]
          · rw [if_neg (fun h => h3 (e44.1 h)), w64n (by omega) (by omega), n1 _ (by omega)]
            refine hstep _ _ ?_
            cases s.data.toList.drop (i + 1) <;> simp [endL, h1, h3]

def toB (l : List UInt8) : ByteArray := ⟨l.toArray⟩
theorem toB_list (l : List UInt8) : (toB l).data.toList = l := by simp [toB]
theorem of_list (s : ByteArray) : toB s.data.toList = s := by cases s; simp [toB]
theorem size_l (s : ByteArray) : s.size = s.data.toList.length := by simp
theorem ext_l (s : ByteArray) (a b : Nat) : (s.extract a b).data.toList = (s.data.toList.drop a).take (b - a) := by
  rw [ByteArray.data_extract, Array.toList_extract]
def trimL (l : List UInt8) : List UInt8 := Lib.trimS l [32, 9]
theorem dropWhile_len {α : Type} (p : α → Bool) (l : List α) : (l.dropWhile p).length ≤ l.length := (List.dropWhile_sublist p).length_le
theorem trimL_len (l : List UInt8) : (trimL l).length ≤ l.length := by
  unfold trimL Lib.trimS Lib.trimLeftS Lib.trimRightS
  refine Nat.le_trans (dropWhile_len _ _) ?_
  rw [List.length_reverse]
  refine Nat.le_trans (dropWhile_len _ _) ?_
  rw [List.length_reverse]
  exact Nat.le_refl _
theorem trim_eval (s : ByteArray) (hs : s.size ≤ 9223372036854775807) : sign_Trim.f s = some (toB (trimL s.data.toList)) := by
  unfold sign_Trim.f strings_Trim.f
  rw [if_pos ⟨hs, by decide, by decide⟩]
  rfl
def listL : Nat → List UInt8 → List (List UInt8)
  | 0, _ => []
  | k + 1, l => if l = [] then [] else (if trimL (l.take (endL false l)) = [] then [] else [trimL (l.take (endL false l))]) ++ listL k (l.drop (endL false l + 1))
theorem list_l0 : ∀ (n : Nat) (s : ByteArray) (acc : List ByteArray) (k : Nat), s.size ≤ n → n ≤ 1000000000 → acc.length + s.size ≤ 1000000000 → 3 * n + 10 < k →
    sign_List.l0 k s acc = some (acc ++ (listL (n + 1) s.data.toList).map toB) := by
  intro n
  induction n with
  | zero =>
    intro s acc k h0 h1 h2 hk
    obtain ⟨k, rfl⟩ : ∃ j, k = j + 1 := ⟨k - 1, by omega⟩
    have hnil : s.data.toList = [] := List.eq_nil_of_length_eq_zero (by rw [← size_l]; omega)
    simp only [sign_List.l0]
    rw [ByteArray.toList_eq, hnil, if_pos rfl]
    simp [listL]
  | succ n ih =>
    intro s acc k h0 h1 h2 hk
    obtain ⟨k, rfl⟩ : ∃ j, k = j + 1 := ⟨k - 1, by omega⟩
    simp only [sign_List.l0]
    rw [ByteArray.toList_eq]
    by_cases hnil : s.data.toList = []
    · rw [if_pos hnil, hnil]
      simp [listL]
    · rw [if_neg hnil]
      have hpos : 0 < s.size := by
        rw [size_l]
        exact List.length_pos_iff.2 hnil
      have he : sign_end.f k s = some ((endL false s.data.toList : Nat) : Int) := by
        unfold sign_end.f
        have := end_l0 s (by omega) s.size 0 k false (by omega) (by omega)
        rw [List.drop_zero, Nat.zero_add] at this
        exact this
      have hle := endL_le s.data.toList.length s.data.toList false (Nat.le_refl _)
      rw [← size_l] at hle
      rw [he]
      simp only [Option.bind_some]
      rw [listL, if_neg hnil]
      generalize hE : endL false s.data.toList = E at *
      rw [if_pos (by omega), if_pos (by omega), trim_eval _ (by rw [ByteArray.size_extract]; omega)]
      simp only [Option.bind_some]
      rw [ByteArray.toList_eq, toB_list, ext_l, Int.toNat_natCast, List.drop_zero, Nat.sub_zero]
      have hmn : mn (wrap64 ((E : Int) + 1)) (s.size : Int) = ((min (E + 1) s.size : Nat) : Int) := by
        rw [w64n (by omega) (by omega)]
        unfold mn
        split <;> omega
      rw [hmn, Int.toNat_natCast]
      have hsz : (s.extract (min (E + 1) s.size) s.size).size ≤ n := by rw [ByteArray.size_extract]; omega
      have hdl : (s.extract (min (E + 1) s.size) s.size).data.toList = s.data.toList.drop (E + 1) := by
        rw [ext_l]
        have hz := size_l s
        by_cases hc : E + 1 ≤ s.size
        · rw [Nat.min_eq_left hc]
          exact List.take_of_length_le (by rw [List.length_drop]; omega)
        · rw [List.drop_of_length_le (l := s.data.toList) (i := E + 1) (by omega), List.drop_of_length_le (by omega)]
          exact List.take_nil
      have hsz2 : (s.extract (min (E + 1) s.size) s.size).size ≤ s.size - 1 := by rw [ByteArray.size_extract]; omega
      by_cases ht : trimL (s.data.toList.take E) = []
      · rw [if_pos ht, if_pos ht, if_pos (by omega), if_pos (by omega), List.nil_append]
        rw [ih _ acc k hsz (by omega) (by omega) (by omega), hdl]
      · rw [if_neg ht, if_neg ht, if_pos (by omega), if_pos (by omega), if_pos (by omega)]
        rw [ih _ (acc ++ [toB (trimL (s.data.toList.take E))]) k hsz (by omega) (by simp; omega) (by omega), hdl]
        simp
theorem list_eval (s : ByteArray) (hs : s.size ≤ 1000000) (k : Nat) (hk : 3000100 < k) : sign_List.f k s = some ((listL (s.size + 1) s.data.toList).map toB) := by
  unfold sign_List.f
  have := list_l0 s.size s [] k (Nat.le_refl _) (by omega) (by simp; omega) (by omega)
  simpa using this
theorem listL_len : ∀ (n : Nat) (l : List UInt8), (listL n l).length ≤ n ∧ ∀ x ∈ listL n l, x.length ≤ l.length := by
  intro n
  induction n with
  | zero => intro l; simp [listL]
  | succ n ih =>
    intro l
    rw [listL]
    by_cases h : l = []
    · rw [if_pos h]; simp
    · rw [if_neg h]
      obtain ⟨i1, i2⟩ := ih (l.drop (endL false l + 1))
      have hd : (l.drop (endL false l + 1)).length ≤ l.length := by rw [List.length_drop]; omega
      by_cases ht : trimL (l.take (endL false l)) = []
      · rw [if_pos ht, List.nil_append]
        exact ⟨by omega, fun x hx => Nat.le_trans (i2 x hx) hd⟩
      · rw [if_neg ht]
        refine ⟨by simp; omega, fun x hx => ?_⟩
        rcases List.mem_append.1 hx with hx | hx
        · obtain rfl := List.mem_singleton.1 hx
          refine Nat.le_trans (trimL_len _) ?_
          rw [List.length_take]
          omega
        · exact Nat.le_trans (i2 x hx) hd
def elemsB (n : ByteArray) (l : List S40) : List ByteArray := (listL ((getB n l).size + 1) (getB n l).data.toList).map toB
theorem elems_eval (n : ByteArray) (l : List S40) (hn : n.size ≤ 1000) (h : SmallF l) (k : Nat) (hk : 3000100 < k) : field_List_Elements.f k l n = some (elemsB n l) := by
  unfold field_List_Elements.f
  have g : field_List_Get.f k l n = some (getB n l, decide (0 < (allV n l).length)) := get_eval n l (by omega) h.2 (by have := h.1; omega) k (by have := h.1; omega)
  rw [g]
  simp only [Option.bind_some]
  have := getB_size n l h
  rw [list_eval _ (by omega) k hk]
  rfl
theorem elems_ok (n : ByteArray) (l : List S40) (h : SmallF l) : (elemsB n l).length ≤ 100000 ∧ ∀ x ∈ elemsB n l, x.size ≤ 80000 := by
  have hg := getB_size n l h
  obtain ⟨i1, i2⟩ := listL_len ((getB n l).size + 1) (getB n l).data.toList
  unfold elemsB
  refine ⟨by rw [List.length_map]; omega, fun x hx => ?_⟩
  obtain ⟨y, hy, rfl⟩ := List.mem_map.1 hx
  have := i2 y hy
  rw [← size_l] at this
  rw [size_l, toB_list]
  omega

theorem has_eval (n w : ByteArray) (l : List S40) (hn : n.size ≤ 1000) (hw : w.size ≤ 1000) (h : SmallF l) (k : Nat) (hk : 3000100 < k) : field_List_Has.f k l n w = some ((elemsB n l).any fun e => sameB e w) := by
  unfold field_List_Has.f
  rw [elems_eval n l hn h k hk]
  simp only [Option.bind_some]
  obtain ⟨e1, e2⟩ := elems_ok n l h
  rw [if_pos ⟨by omega, by omega, fun x hx => by have := e2 x hx; omega⟩]

/-! Small letters of small letters -/
theorem lowU_idem (c : UInt8) : lowU (lowU c) = lowU c := by
  unfold lowU
  by_cases h : 65 ≤ c.toNat ∧ c.toNat ≤ 90
  · rw [if_pos h]
    have e : (UInt8.ofNat (c.toNat + 32)).toNat = c.toNat + 32 := by simp; omega
    rw [if_neg (by rw [e]; omega)]
  · rw [if_neg h, if_neg h]
theorem lowL_idem (l : List UInt8) : lowL (lowL l) = lowL l := by
  unfold lowL
  rw [List.map_map]
  exact List.map_congr_left fun c _ => lowU_idem c
theorem lowB_size (s : ByteArray) : (lowB s).size = s.size := by
  rw [size_l, size_l, lowB_list]
  simp [lowL]
theorem sameB_low (a b : ByteArray) : sameB (lowB a) b = sameB a b := by
  unfold sameB
  rw [lowB_list, lowL_idem]
theorem sameB_low2 (a b : ByteArray) : sameB a (lowB b) = sameB a b := by
  unfold sameB
  rw [lowB_list, lowL_idem]

/-! ## What is right -/
def marksB : List UInt8 := [33, 35, 36, 37, 38, 39, 42, 43, 45, 46, 94, 95, 124, 126, 96]
def tokC (c : UInt8) : Bool := (sign_letter.f (c.toNat : Int)).getD false || !(decide (Lib.indexByte marksB (c.toNat : Int).toNat.toUInt8 < 0))
theorem tok_fin : ∀ c : Fin 256, (sign_letter.f (c.val : Int)).isSome = true := by decide +kernel
theorem tok_u8 (c : UInt8) : True ∧ (∃ b, sign_letter.f (c.toNat : Int) = some b ∧ tokC c = (b || !(decide (Lib.indexByte marksB (c.toNat : Int).toNat.toUInt8 < 0)))) := by
  obtain ⟨b, hb⟩ := Option.isSome_iff_exists.1 (tok_fin ⟨c.toNat, c.toNat_lt⟩)
  have hb' : sign_letter.f (c.toNat : Int) = some b := hb
  refine ⟨trivial, b, hb', ?_⟩
  unfold tokC
  rw [hb']
  rfl
def tokV (s : ByteArray) : Bool := s.data.toList.all tokC && decide (0 < s.size)
theorem ne_nil_iff (s : ByteArray) : (s.toList != []) = decide (0 < s.size) := by
  rw [ByteArray.toList_eq, size_l]
  cases s.data.toList <;> simp
theorem token_l0 (s : ByteArray) (hs : s.size ≤ 1000000000) : ∀ (d i k : Nat), i + d = s.size → d < k → sign_Token.l0 k s (s.size : Int) (i : Int) = some ((s.data.toList.drop i).all tokC && decide (0 < s.size)) := by
  intro d
  induction d with
  | zero =>
    intro i k hi hk
    obtain ⟨k, rfl⟩ : ∃ j, k = j + 1 := ⟨k - 1, by omega⟩
    have hz := size_l s
    simp only [sign_Token.l0]
    rw [if_neg (by omega), List.drop_of_length_le (by omega), ne_nil_iff]
    simp
  | succ d ih =>
    intro i k hi hk
    obtain ⟨k, rfl⟩ : ∃ j, k = j + 1 := ⟨k - 1, by omega⟩
    have hz := size_l s
    have hlt : i < s.data.toList.length := by omega
    obtain ⟨_, b, hb, ht⟩ := tok_u8 s.data.toList[i]
    simp only [sign_Token.l0]
    rw [if_pos (by omega), if_pos (by omega), if_pos (by omega), bt_at2 s i hlt, hb, w64n (by omega) (by omega)]
    simp only [Option.bind_some]
    have := ih (i + 1) k (by omega) (by omega)
    rw [show ((i + 1 : Nat) : Int) = (i : Int) + 1 by omega] at this
    rw [List.drop_eq_getElem_cons hlt, List.all_cons, this]
    cases b with
    | true =>
      rw [if_pos rfl, ht]
      simp
    | false =>
      rw [if_neg (by simp)]
      unfold strings_IndexByte.f
      simp only [Option.bind_some]
      rw [Bool.false_or] at ht
      by_cases hc : Lib.indexByte marksB ((s.data.toList[i]).toNat : Int).toNat.toUInt8 < 0
      · rw [ht, decide_eq_true hc]
        refine (if_pos hc).trans ?_
        simp
      · rw [ht, decide_eq_false hc]
        refine (if_neg hc).trans ?_
        simp
theorem token_eval (s : ByteArray) (hs : s.size ≤ 1000000000) (k : Nat) (hk : s.size < k) : sign_Token.f k s = some (tokV s) := by
  unfold sign_Token.f
  have := token_l0 s hs s.size 0 k (by omega) hk
  exact this

/-! ## Quoted texts and numbers -/
def unqP : List UInt8 → Option (List UInt8)
  | [] => none
  | [c] => if c = 34 then some [] else none
  | c :: d :: l => if c = 34 then none else if c = 92 then (unqP l).map (d :: ·) else (unqP (d :: l)).map (c :: ·)
def unqR : List UInt8 → Option (List UInt8)
  | [] => some []
  | [c] => if c = 34 then none else if c = 92 then none else some [c]
  | c :: d :: l => if c = 34 then none else if c = 92 then (unqR l).map (d :: ·) else (unqR (d :: l)).map (c :: ·)
def numsOf (l : List UInt8) : List Int := l.map fun c => (c.toNat : Int)
def resU (acc : List Int) : Option (List UInt8) → ByteArray × Bool
  | none => (⟨#[]⟩, false)
  | some r => (strOfNums (acc ++ numsOf r), true)
theorem resU_cons (acc : List Int) (c : UInt8) (o : Option (List UInt8)) : resU acc (o.map (c :: ·)) = resU (acc ++ [(c.toNat : Int)]) o := by
  cases o with
  | none => rfl
  | some r => simp [resU, numsOf]
theorem unqP_len : ∀ (n : Nat) (l : List UInt8), l.length ≤ n → ∀ r, unqP l = some r → r.length ≤ l.length := by
  intro n
  induction n with
  | zero =>
    intro l h r hr
    obtain rfl := List.eq_nil_of_length_eq_zero (by omega : l.length = 0)
    cases hr
  | succ n ih =>
    intro l h r hr
    match l, h with
    | [], _ => cases hr
    | [c], _ =>
      rw [unqP] at hr
      split at hr
      · obtain rfl := Option.some.inj hr; simp
      · cases hr
    | c :: d :: l, h =>
      simp only [List.length_cons] at h
      rw [unqP] at hr
      split at hr
      · cases hr
      · split at hr
        · obtain ⟨r', hr', rfl⟩ := Option.map_eq_some_iff.1 hr
          have := ih l (by omega) r' hr'
          simp only [List.length_cons]
          omega
        · obtain ⟨r', hr', rfl⟩ := Option.map_eq_some_iff.1 hr
          have := ih (d :: l) (by simp; omega) r' hr'
          simp only [List.length_cons] at this ⊢
          omega
theorem unq_l0 (s : ByteArray) (hs : s.size ≤ 1000000) : ∀ (d i k : Nat) (acc : List Int), i + d = s.size → 1 ≤ i → acc.length ≤ i → d < k → sign_Unquote.l0 k s acc (i : Int) = some (resU acc (unqP (s.data.toList.drop i))) := by
  have hz := size_l s
  intro d
  induction d using Nat.strongRecOn with
  | _ d ih =>
    intro i k acc hi h1 ha hk
    obtain ⟨k, rfl⟩ : ∃ j, k = j + 1 := ⟨k - 1, by omega⟩
    simp only [sign_Unquote.l0]
    cases d with
    | zero =>
      rw [if_neg (by omega), List.drop_of_length_le (by omega)]
      rfl
    | succ d =>
      have hlt : i < s.data.toList.length := by omega
      have e34 : ((s.data.toList[i]).toNat : Int) = 34 ↔ s.data.toList[i] = 34 := u8_eq _ 34
      have e92 : ((s.data.toList[i]).toNat : Int) = 92 ↔ s.data.toList[i] = 92 := u8_eq _ 92
      rw [if_pos (by omega), if_pos (by omega), bt_at2 s i hlt, w64n (x := (s.size : Int) - 1) (by omega) (by omega), w64n (x := (i : Int) + 1) (by omega) (by omega)]
      have n1 : ∀ acc' : List Int, acc'.length ≤ i + 1 → sign_Unquote.l0 k s acc' ((i : Int) + 1) = some (resU acc' (unqP (s.data.toList.drop (i + 1)))) := fun acc' h => by
        have := ih d (by omega) (i + 1) k acc' (by omega) (by omega) h (by omega)
        rwa [show ((i + 1 : Nat) : Int) = (i : Int) + 1 by omega] at this
      by_cases c1 : s.data.toList[i] = 34
      · rw [if_pos (e34.2 c1)]
        rcases Nat.eq_zero_or_pos d with hd | hd
        · rw [if_neg (by omega), List.drop_eq_getElem_cons hlt, List.drop_of_length_le (i := i + 1) (by omega), unqP, if_pos c1]
          simp [resU, numsOf]
        · have hlt2 : i + 1 < s.data.toList.length := by omega
          rw [if_pos (by omega), List.drop_eq_getElem_cons hlt, List.drop_eq_getElem_cons hlt2, unqP, if_pos c1]
          rfl
      · rw [if_neg (fun x => c1 (e34.1 x))]
        by_cases c2 : s.data.toList[i] = 92
        · rw [if_pos (e92.2 c2)]
          rcases Nat.eq_zero_or_pos d with hd | hd
          · rw [if_pos (by omega), List.drop_eq_getElem_cons hlt, List.drop_of_length_le (i := i + 1) (by omega), unqP, if_neg c1]
            rfl
          · have hlt2 : i + 1 < s.data.toList.length := by omega
            have hb := bt_at2 s (i + 1) hlt2
            rw [show ((i + 1 : Nat) : Int) = (i : Int) + 1 by omega] at hb
            have := ih (d - 1) (by omega) (i + 2) k (acc ++ [((s.data.toList[i + 1]).toNat : Int)]) (by omega) (by omega) (by simp; omega) (by omega)
            rw [show ((i + 2 : Nat) : Int) = (i : Int) + 1 + 1 by omega] at this
            rw [if_neg (by omega), if_pos (by omega), if_pos (by omega), if_pos (by omega), hb, w64n (by omega) (by omega), this, List.drop_eq_getElem_cons hlt, List.drop_eq_getElem_cons hlt2, unqP, if_neg c1, if_pos c2, resU_cons]
        · rw [if_neg (fun x => c2 (e92.1 x)), if_pos (by omega), n1 _ (by simp; omega), List.drop_eq_getElem_cons hlt]
          rcases Nat.eq_zero_or_pos d with hd | hd
          · have e : unqP [s.data.toList[i]] = none := by rw [unqP, if_neg c1]
            rw [List.drop_of_length_le (i := i + 1) (by omega), e]
            rfl
          · have hlt2 : i + 1 < s.data.toList.length := by omega
            rw [List.drop_eq_getElem_cons hlt2, unqP, if_neg c1, if_neg c2, resU_cons]
def unqV (s : ByteArray) : ByteArray × Bool := if tokV s = true then (s, true) else if s.size < 2 then (⟨#[]⟩, false) else if bt s 0 = 34 then resU [] (unqP (s.data.toList.drop 1)) else (⟨#[]⟩, false)
theorem unq_eval (s : ByteArray) (hs : s.size ≤ 1000000) (k : Nat) (hk : 2000000 < k) : sign_Unquote.f k s = some (unqV s) := by
  unfold sign_Unquote.f unqV
  obtain ⟨k, rfl⟩ : ∃ j, k = j + 1 := ⟨k - 1, by omega⟩
  rw [token_eval s (by omega) _ (by omega)]
  simp only [Option.bind_some]
  have jt : sign_Unquote.j0 (k + 1) s true = some (⟨#[]⟩, false) := by simp [sign_Unquote.j0]
  cases tokV s with
  | true => rw [if_pos rfl, if_pos rfl]
  | false =>
    rw [if_neg (show ¬ (false = true) by simp), if_neg (show ¬ (false = true) by simp)]
    by_cases h2 : s.size < 2
    · rw [if_pos (by omega), if_pos h2, jt]
    · rw [if_neg (by omega), if_neg h2, if_pos (by omega)]
      by_cases h3 : bt s 0 = 34
      · rw [if_pos h3, h3]
        simp only [sign_Unquote.j0]
        rw [if_neg (by simp)]
        have := unq_l0 s hs (s.size - 1) 1 k [] (by omega) (by omega) (by simp) (by omega)
        exact this
      · rw [if_neg h3, bne_iff_ne.2 h3, jt]
theorem unqV_size (s : ByteArray) : (unqV s).1.size ≤ s.size := by
  unfold unqV
  split
  · exact Nat.le_refl _
  · split
    · exact Nat.zero_le _
    · split
      · cases h : unqP (s.data.toList.drop 1) with
        | none => exact Nat.zero_le _
        | some r =>
          have := unqP_len _ _ (Nat.le_refl _) r h
          rw [List.length_drop, ← size_l] at this
          have e : (resU [] (some r)).1.size = r.length := by simp [resU, strOfNums, numsOf, ByteArray.size]
          rw [e]
          omega
      · exact Nat.zero_le _
def numP : Int → List UInt8 → Option Int
  | n, [] => some n
  | n, c :: l => if c.toNat < 48 ∨ c.toNat > 57 then none else numP (mn (10 * n + ((c.toNat : Int) - 48)) 2147483648) l
theorem numP_range : ∀ (l : List UInt8) (n : Int), 0 ≤ n → ∀ v, numP n l = some v → 0 ≤ v := by
  intro l
  induction l with
  | nil => intro n hn v hv; obtain rfl := Option.some.inj hv; exact hn
  | cons c l ih =>
    intro n hn v hv
    rw [numP] at hv
    split at hv
    · cases hv
    · refine ih _ ?_ v hv
      unfold mn
      split <;> omega
def numV (s : ByteArray) : Int × Bool := match numP 0 s.data.toList with
  | none => (0, false)
  | some v => (v, decide (0 < s.size))
theorem num_l0 (s : ByteArray) (hs : s.size ≤ 1000000) : ∀ (d i k : Nat) (n : Int), i + d = s.size → 0 ≤ n → n ≤ 2147483648 → d < k →
    sign_Number.l0 k s n (s.size : Int) (i : Int) = some (match numP n (s.data.toList.drop i) with | none => (0, false) | some v => (v, decide (0 < s.size))) := by
  have hz := size_l s
  intro d
  induction d with
  | zero =>
    intro i k n hi h0 h1 hk
    obtain ⟨k, rfl⟩ : ∃ j, k = j + 1 := ⟨k - 1, by omega⟩
    simp only [sign_Number.l0]
    rw [if_neg (by omega), List.drop_of_length_le (by omega), ne_nil_iff]
    rfl
  | succ d ih =>
    intro i k n hi h0 h1 hk
    obtain ⟨k, rfl⟩ : ∃ j, k = j + 1 := ⟨k - 1, by omega⟩
    have hlt : i < s.data.toList.length := by omega
    simp only [sign_Number.l0]
    rw [if_pos (by omega), if_pos (by omega), if_pos (by omega), bt_at2 s i hlt, List.drop_eq_getElem_cons hlt, numP]
    by_cases c1 : ((s.data.toList[i]).toNat : Int) < 48
    · rw [if_pos c1, if_pos (by omega)]
    · rw [if_neg c1]
      by_cases c2 : ((s.data.toList[i]).toNat : Int) > 57
      · rw [if_pos c2, if_pos (by omega)]
      · have hm : 0 ≤ mn (10 * n + (((s.data.toList[i]).toNat : Int) - 48)) 2147483648 ∧ mn (10 * n + (((s.data.toList[i]).toNat : Int) - 48)) 2147483648 ≤ 2147483648 := by unfold mn; split <;> omega
        rw [if_neg c2, if_neg (by omega), w64n (x := 10 * n) (by omega) (by omega), show (((s.data.toList[i]).toNat : Int) - 48) % 256 = ((s.data.toList[i]).toNat : Int) - 48 by omega, w64n (x := 10 * n + _) (by omega) (by omega), w64n (by omega) (by omega)]
        have := ih (i + 1) k _ (by omega) hm.1 hm.2 (by omega)
        rwa [show ((i + 1 : Nat) : Int) = (i : Int) + 1 by omega] at this
theorem num_eval (s : ByteArray) (hs : s.size ≤ 1000000) (k : Nat) (hk : 1000000 < k) : sign_Number.f k s = some (numV s) := by
  unfold sign_Number.f
  exact num_l0 s hs s.size 0 k 0 (Nat.zero_add _) (by omega) (by omega) (by omega)
def secV (arg : ByteArray) (other : Int) : Int := if (unqV arg).2 = true then (if (numV (unqV arg).1).2 = true then (numV (unqV arg).1).1 else other) else other
theorem sec_eval (arg : ByteArray) (h : arg.size ≤ 1000000) (other : Int) (k : Nat) (hk : 2000000 < k) : control_seconds.f k arg other = some (secV arg other) := by
  have hz := unqV_size arg
  unfold control_seconds.f secV
  rw [unq_eval arg h k hk]
  simp only [Option.bind_some]
  rw [num_eval _ (by omega) k (by omega)]
  simp only [Option.bind_some]
  split
  · split <;> rfl
  · rfl
theorem sec_range (arg : ByteArray) (other : Int) (ho : 0 ≤ other) : 0 ≤ secV arg other := by
  unfold secV
  split
  · split
    · unfold numV
      cases h : numP 0 (unqV arg).1.data.toList with
      | none => exact Int.le_refl _
      | some v => exact numP_range _ 0 (Int.le_refl _) v h
    · exact ho
  · exact ho
theorem sec_none (other : Int) : secV ⟨#[]⟩ other = other := rfl

/-! ## What fields say -/
theorem small_l {x : ByteArray} (h : x.size ≤ 80000) : x.size ≤ 1000000 := by omega
theorem cut_size (e : ByteArray) (M : Nat) (h : e.size ≤ M) : (cutA e).size ≤ M ∧ (cutB e).size ≤ M := by
  unfold cutA cutB
  constructor
  · split
    · rw [ByteArray.size_extract]; omega
    · exact h
  · split
    · rw [ByteArray.size_extract]; omega
    · exact Nat.zero_le _
theorem cut_none (e : ByteArray) (h : cutH e = false) : cutB e = ⟨#[]⟩ := by
  unfold cutH at h
  unfold cutB
  rw [if_neg (of_decide_eq_false h)]
def nmIs (e : ByteArray) (nm : List UInt8) : Bool := (lowB (cutA e)).toList == nm
def saidV (es : List ByteArray) (nm : List UInt8) : Bool := es.any fun e => nmIs e nm
def secE (e : ByteArray) (other bare : Int) : Int := if cutH e = true then secV (cutB e) other else bare
def stepL (most : Bool) (o s : Int) : Int := if o < 0 ∨ (most = true ∧ s > o) ∨ (most = false ∧ s < o) then s else o
def toldV (nm : List UInt8) (other bare : Int) (most : Bool) : Int → List ByteArray → Int
  | o, [] => o
  | o, e :: l => toldV nm other bare most (if nmIs e nm = true then stepL most o (secE e other bare) else o) l
def nNoStore : List UInt8 := [110, 111, 45, 115, 116, 111, 114, 101]
def nNoCache : List UInt8 := [110, 111, 45, 99, 97, 99, 104, 101]
def nPrivate : List UInt8 := [112, 114, 105, 118, 97, 116, 101]
def nPublic : List UInt8 := [112, 117, 98, 108, 105, 99]
def nMust : List UInt8 := [109, 117, 115, 116, 45, 114, 101, 118, 97, 108, 105, 100, 97, 116, 101]
def nProxy : List UInt8 := [112, 114, 111, 120, 121, 45, 114, 101, 118, 97, 108, 105, 100, 97, 116, 101]
def nOnly : List UInt8 := [111, 110, 108, 121, 45, 105, 102, 45, 99, 97, 99, 104, 101, 100]
def nMax : List UInt8 := [109, 97, 120, 45, 97, 103, 101]
def nShared : List UInt8 := [115, 45, 109, 97, 120, 97, 103, 101]
def nFresh : List UInt8 := [109, 105, 110, 45, 102, 114, 101, 115, 104]
def nStale : List UInt8 := [109, 97, 120, 45, 115, 116, 97, 108, 101]
/-- One directive, all of a Control at once. -/
def oneV (c : Ctl) (e : ByteArray) : Ctl :=
  ⟨c.s0 || nmIs e nNoStore, c.s1 || nmIs e nNoCache, c.s2 || nmIs e nPrivate, c.s3 || nmIs e nPublic, c.s4 || (nmIs e nMust || nmIs e nProxy), c.s5 || nmIs e nOnly,
   if nmIs e nMax = true then stepL false c.s6 (secE e 0 0) else c.s6, if nmIs e nShared = true then stepL false c.s7 (secE e 0 0) else c.s7,
   if nmIs e nFresh = true then stepL true c.s8 (secE e 2147483648 2147483648) else c.s8, if nmIs e nStale = true then stepL false c.s9 (secE e 0 2147483648) else c.s9⟩
theorem least_step (o n : Int) : leastV o n = stepL false o n := by
  unfold leastV stepL
  by_cases h : o < 0 ∨ n < o
  · rw [if_pos h, if_pos (by rcases h with h | h; exact .inl h; exact .inr (.inr ⟨rfl, h⟩))]
  · rw [if_neg h, if_neg (by rintro (x | ⟨x, _⟩ | ⟨_, x⟩); exact h (.inl x); cases x; exact h (.inr x))]
theorem most_step (o n : Int) (ho : -1 ≤ o) (hn : 0 ≤ n) : mx o n = stepL true o n := by
  unfold mx stepL
  by_cases h : o < n
  · rw [if_pos h, if_pos (.inr (.inl ⟨rfl, h⟩))]
  · rw [if_neg h, if_neg (by rintro (x | ⟨_, x⟩ | ⟨x, _⟩); omega; omega; cases x)]
theorem secE_flat (e : ByteArray) (v : Int) : secV (cutB e) v = secE e v v := by
  unfold secE
  by_cases h : cutH e = true
  · rw [if_pos h]
  · rw [if_neg h, cut_none e (by simpa using h), sec_none]
theorem dir_eval (c : Ctl) (e : ByteArray) (he : e.size ≤ 80000) (hc : -1 ≤ c.s8) (k : Nat) (hk : 2000000 < k) : dirV k c (lowB (cutA e)) (cutB e) (cutH e) = some (oneV c e) ∧ -1 ≤ (oneV c e).s8 := by
  have hsz := (cut_size e 80000 he).2
  have hs : ∀ other, control_seconds.f k (cutB e) other = some (secV (cutB e) other) := fun other => sec_eval _ (by omega) other k hk
  have h8 : 0 ≤ secE e 2147483648 2147483648 := by rw [← secE_flat]; exact sec_range _ _ (by omega)
  have hm : ∀ x, nmIs e x = ((lowB (cutA e)).toList == x) := fun x => rfl
  have hmx : mx c.s8 (secE e 2147483648 2147483648) = stepL true c.s8 (secE e 2147483648 2147483648) := most_step _ _ hc h8
  constructor
  · unfold dirV oneV
    simp only [hs, Option.bind_some, hm, least_step, secE_flat, hmx]
    generalize hnm : (lowB (cutA e)).toList = nm
    by_cases c0 : nm = nNoStore
    · subst c0; simp [nNoStore, nNoCache, nPrivate, nPublic, nMust, nProxy, nOnly, nMax, nShared, nFresh, nStale]
    by_cases c1 : nm = nNoCache
    · subst c1; simp [nNoStore, nNoCache, nPrivate, nPublic, nMust, nProxy, nOnly, nMax, nShared, nFresh, nStale]
    by_cases c2 : nm = nPrivate
    · subst c2; simp [nNoStore, nNoCache, nPrivate, nPublic, nMust, nProxy, nOnly, nMax, nShared, nFresh, nStale]
    by_cases c3 : nm = nPublic
    · subst c3; simp [nNoStore, nNoCache, nPrivate, nPublic, nMust, nProxy, nOnly, nMax, nShared, nFresh, nStale]
    by_cases c4 : nm = nMust
    · subst c4; simp [nNoStore, nNoCache, nPrivate, nPublic, nMust, nProxy, nOnly, nMax, nShared, nFresh, nStale]
    by_cases c5 : nm = nProxy
    · subst c5; simp [nNoStore, nNoCache, nPrivate, nPublic, nMust, nProxy, nOnly, nMax, nShared, nFresh, nStale]
    by_cases c6 : nm = nOnly
    · subst c6; simp [nNoStore, nNoCache, nPrivate, nPublic, nMust, nProxy, nOnly, nMax, nShared, nFresh, nStale]
    by_cases c7 : nm = nMax
    · subst c7; simp [nNoStore, nNoCache, nPrivate, nPublic, nMust, nProxy, nOnly, nMax, nShared, nFresh, nStale]
    by_cases c8 : nm = nShared
    · subst c8; simp [nNoStore, nNoCache, nPrivate, nPublic, nMust, nProxy, nOnly, nMax, nShared, nFresh, nStale]
    by_cases c9 : nm = nFresh
    · subst c9; simp [nNoStore, nNoCache, nPrivate, nPublic, nMust, nProxy, nOnly, nMax, nShared, nFresh, nStale]
    by_cases c10 : nm = nStale
    · subst c10
      unfold secE
      cases cutH e <;> simp [nNoStore, nNoCache, nPrivate, nPublic, nMust, nProxy, nOnly, nMax, nShared, nFresh, nStale]
    have f : ∀ x, nm ≠ x → (nm == x) = false := fun x h => beq_eq_false_iff_ne.2 h
    simp only [f _ c0, f _ c1, f _ c2, f _ c3, f _ c4, f _ c5, f _ c6, f _ c7, f _ c8, f _ c9, f _ c10, Bool.or_false, Bool.false_eq_true, if_false]
    simp only [nNoStore, nNoCache, nPrivate, nPublic, nMust, nProxy, nOnly, nMax, nShared, nFresh, nStale] at c0 c1 c2 c3 c4 c5 c6 c7 c8 c9 c10
    rw [if_neg c0, if_neg c1, if_neg c2, if_neg c3, if_neg c4, if_neg c5, if_neg c6, if_neg c7, if_neg c8, if_neg c9, if_neg c10]
  · unfold oneV
    show -1 ≤ (if nmIs e nFresh = true then stepL true c.s8 (secE e 2147483648 2147483648) else c.s8)
    split
    · unfold stepL
      split <;> omega
    · exact hc
def allC (c : Ctl) (es : List ByteArray) : Ctl := es.foldl oneV c
theorem ofGo_eval (k : Nat) (hk : 2000000 < k) : ∀ (es : List ByteArray) (c : Ctl), (∀ e ∈ es, e.size ≤ 80000) → -1 ≤ c.s8 → ofGo k c es = some (allC c es) := by
  intro es
  induction es with
  | nil => intro c _ _; rfl
  | cons e es ih =>
    intro c hs hc
    obtain ⟨h1, h2⟩ := dir_eval c e (hs e (by simp)) hc k hk
    rw [ofGo, h1]
    simp only [Option.bind_some]
    exact ih _ (fun x hx => hs x (by simp [hx])) h2
theorem allC_eq : ∀ (es : List ByteArray) (c : Ctl), allC c es = ⟨c.s0 || saidV es nNoStore, c.s1 || saidV es nNoCache, c.s2 || saidV es nPrivate, c.s3 || saidV es nPublic, c.s4 || (saidV es nMust || saidV es nProxy), c.s5 || saidV es nOnly, toldV nMax 0 0 false c.s6 es, toldV nShared 0 0 false c.s7 es, toldV nFresh 2147483648 2147483648 true c.s8 es, toldV nStale 0 2147483648 false c.s9 es⟩ := by
  intro es
  induction es with
  | nil => intro c; simp [allC, saidV, toldV]
  | cons e es ih =>
    intro c
    have : allC c (e :: es) = allC (oneV c e) es := rfl
    rw [this, ih]
    simp only [oneV, saidV, List.any_cons, toldV, Ctl.mk.injEq, Bool.or_assoc, and_true, true_and]
    ac_rfl
def ccU : ByteArray := ⟨#[67, 97, 99, 104, 101, 45, 67, 111, 110, 116, 114, 111, 108]⟩
def ccL : ByteArray := ⟨#[99, 97, 99, 104, 101, 45, 99, 111, 110, 116, 114, 111, 108]⟩
def prU : ByteArray := ⟨#[80, 114, 97, 103, 109, 97]⟩
def prL : ByteArray := ⟨#[112, 114, 97, 103, 109, 97]⟩
def ncB : ByteArray := ⟨#[110, 111, 45, 99, 97, 99, 104, 101]⟩
theorem isOf_low (n : ByteArray) : isOf [lowB n] = isOf [n] := by
  funext o
  unfold isOf
  simp only [List.any_cons, List.any_nil, Bool.or_false]
  exact sameB_low n o.f0
theorem allV_low (n : ByteArray) (l : List S40) : allV (lowB n) l = allV n l := by unfold allV; rw [isOf_low]
theorem getB_low (n : ByteArray) (l : List S40) : getB (lowB n) l = getB n l := by unfold getB; rw [allV_low]
theorem elemsB_low (n : ByteArray) (l : List S40) : elemsB (lowB n) l = elemsB n l := by unfold elemsB; rw [getB_low]
def pragV (l : List S40) : Bool := decide ((allV ccU l).length = 0) && ((elemsB prU l).any fun e => sameB e ncB)
def finV (l : List S40) (c : Ctl) : Ctl := if pragV l = true then { c with s1 := true } else c
def ofV (l : List S40) : Ctl := finV l (allC noneC (elemsB ccU l))
theorem end_eval (l : List S40) (h : SmallF l) (c : Ctl) (k : Nat) (hk : 3000100 < k) : ofEnd k l c = some (finV l c) := by
  unfold ofEnd
  have hl := h.1
  have g : field_List_Get.f k l ccU = some (getB ccU l, decide (0 < (allV ccU l).length)) := get_eval ccU l (by decide) h.2 (by omega) k (by omega)
  have g' : field_List_Get.f k l (⟨#[67, 97, 99, 104, 101, 45, 67, 111, 110, 116, 114, 111, 108]⟩ : ByteArray) = some (getB ccU l, decide (0 < (allV ccU l).length)) := g
  have hh : field_List_Has.f k l prU ncB = some ((elemsB prU l).any fun e => sameB e ncB) := has_eval prU ncB l (by decide) (by decide) h k hk
  have hh' : field_List_Has.f k l (⟨#[80, 114, 97, 103, 109, 97]⟩ : ByteArray) (⟨#[110, 111, 45, 99, 97, 99, 104, 101]⟩ : ByteArray) = some ((elemsB prU l).any fun e => sameB e ncB) := hh
  rw [g']
  simp only [Option.bind_some]
  unfold finV pragV
  by_cases h0 : 0 < (allV ccU l).length
  · rw [if_pos (decide_eq_true h0), decide_eq_false (by omega), Bool.false_and, if_neg (by simp)]
  · rw [if_neg (by rw [decide_eq_false h0]; simp), hh', decide_eq_true (by omega), Bool.true_and]
    rfl
theorem of_eval (l : List S40) (h : SmallF l) (k : Nat) (hk : 3000100 < k) : control_Of.f k l = some (ctTup (ofV l)) := by
  unfold control_Of.f
  obtain ⟨e1, e2⟩ := elems_ok ccU l h
  have el : field_List_Elements.f k l (⟨#[67, 97, 99, 104, 101, 45, 67, 111, 110, 116, 114, 111, 108]⟩ : ByteArray) = some (elemsB ccU l) := elems_eval ccU l (by decide) h k hk
  rw [el]
  simp only [Option.bind_some]
  rw [if_pos ⟨by omega, fun e he => by have := e2 e he; omega⟩, ofGo_eval k (by omega) _ noneC e2 (by decide)]
  simp only [Option.bind_some]
  rw [end_eval l h _ k hk]
  rfl

/-! ## Texts of elements, in parts -/
theorem endF_cons {c : UInt8} (l : List UInt8) (h1 : c ≠ 34) (h2 : c ≠ 44) : endL false (c :: l) = 1 + endL false l := by
  cases l with
  | nil => simp [endL, h1, h2]
  | cons d l => simp [endL, h1, h2]
theorem endF_comma (l : List UInt8) : endL false (44 :: l) = 0 := by cases l <;> simp [endL]
theorem endF_quote (l : List UInt8) : endL false (34 :: l) = 1 + endL true l := by cases l <;> simp [endL]
theorem endT_quote (l : List UInt8) : endL true (34 :: l) = 1 + endL false l := by cases l <;> simp [endL]
theorem endT_cons {c : UInt8} (l : List UInt8) (h1 : c ≠ 34) (h2 : c ≠ 92) : endL true (c :: l) = 1 + endL true l := by
  cases l with
  | nil => simp [endL, h1, h2]
  | cons d l => simp [endL, h1, h2]
theorem endF_app : ∀ (a r : List UInt8), (∀ c ∈ a, c ≠ 34 ∧ c ≠ 44) → endL false (a ++ r) = a.length + endL false r := by
  intro a
  induction a with
  | nil => intro r _; simp
  | cons c a ih =>
    intro r h
    obtain ⟨h1, h2⟩ := h c (by simp)
    rw [List.cons_append, endF_cons _ h1 h2, ih r (fun x hx => h x (by simp [hx])), List.length_cons]
    omega
theorem endT_app : ∀ (a r : List UInt8), (∀ c ∈ a, c ≠ 34 ∧ c ≠ 92) → endL true (a ++ r) = a.length + endL true r := by
  intro a
  induction a with
  | nil => intro r _; simp
  | cons c a ih =>
    intro r h
    obtain ⟨h1, h2⟩ := h c (by simp)
    rw [List.cons_append, endT_cons _ h1 h2, ih r (fun x hx => h x (by simp [hx])), List.length_cons]
    omega
def keepL (l : List UInt8) : List (List UInt8) := if trimL l = [] then [] else [trimL l]
theorem listL_nil (k : Nat) : listL k [] = [] := by cases k <;> simp [listL]
theorem trimL_nil : trimL [] = [] := rfl
theorem listL_comma (k : Nat) (a r : List UInt8) (h : endL false (a ++ 44 :: r) = a.length) : listL (k + 1) (a ++ 44 :: r) = keepL a ++ listL k r := by
  rw [listL, if_neg (by simp), h]
  have e1 : (a ++ 44 :: r).take a.length = a := by simp
  have e2 : (a ++ 44 :: r).drop (a.length + 1) = r := by simp
  rw [e1, e2]
  rfl
theorem endF_plain (a r : List UInt8) (h : ∀ c ∈ a, c ≠ 34 ∧ c ≠ 44) : endL false (a ++ 44 :: r) = a.length := by rw [endF_app a _ h, endF_comma]; rfl
theorem listL_last (k : Nat) (a : List UInt8) (h : endL false a = a.length) : listL (k + 1) a = keepL a := by
  rw [listL]
  by_cases h0 : a = []
  · rw [if_pos h0, h0]; simp [keepL, trimL_nil]
  · rw [if_neg h0, h, List.take_length, List.drop_of_length_le (by omega), listL_nil, List.append_nil]
    rfl
theorem trimL_at (b l m m' : List UInt8) (c d : UInt8) (hb : ∀ x ∈ b, [32, 9].contains x = true) (h1 : l = c :: m) (h2 : l = m' ++ [d]) (hc : [32, 9].contains c = false) (hd : [32, 9].contains d = false) : trimL (b ++ l) = l := by
  unfold trimL Lib.trimS Lib.trimRightS Lib.trimLeftS
  have e1 : (b ++ l).reverse = d :: (b ++ m').reverse := by rw [h2]; simp
  rw [e1, List.dropWhile_cons_of_neg (by simpa using hd)]
  have e2 : (d :: (b ++ m').reverse).reverse = b ++ l := by rw [← e1, List.reverse_reverse]
  rw [e2, List.dropWhile_append_of_pos hb, h1, List.dropWhile_cons_of_neg (by simpa using hc)]
theorem keepL_at (b l m m' : List UInt8) (c d : UInt8) (hb : ∀ x ∈ b, [32, 9].contains x = true) (h1 : l = c :: m) (h2 : l = m' ++ [d]) (hc : [32, 9].contains c = false) (hd : [32, 9].contains d = false) : keepL (b ++ l) = [l] := by
  unfold keepL
  rw [trimL_at b l m m' c d hb h1 h2 hc hd, if_neg (by rw [h1]; simp)]
/-! ## A directive, cut at its sign -/
theorem idx_at (c : UInt8) : ∀ (a r : List UInt8), (∀ x ∈ a, x ≠ c) → Lib.indexByte (a ++ c :: r) c = (a.length : Int) := by
  intro a
  induction a with
  | nil => intro r _; simp [Lib.indexByte]
  | cons x a ih =>
    intro r h
    have e := ih r (fun y hy => h y (by simp [hy]))
    rw [List.cons_append]
    unfold Lib.indexByte
    rw [if_neg (by simpa using h x (by simp)), e, if_neg (by first | (simp; done) | (simp; omega)), List.length_cons]
    omega
theorem cut_at (a r : List UInt8) (h : ∀ x ∈ a, x ≠ 61) : cutA (toB (a ++ 61 :: r)) = toB a ∧ cutB (toB (a ++ 61 :: r)) = toB r ∧ cutH (toB (a ++ 61 :: r)) = true := by
  have e : cutI (toB (a ++ 61 :: r)) = (a.length : Int) := by unfold cutI; rw [toB_list]; exact idx_at 61 a r h
  have hz : (toB (a ++ 61 :: r)).size = a.length + 1 + r.length := by rw [size_l, toB_list]; first | (simp; done) | (simp; omega)
  unfold cutA cutB cutH
  rw [e, if_pos (by omega), if_pos (by omega)]
  refine ⟨?_, ?_, decide_eq_true (by omega)⟩
  · rw [← of_list ((toB (a ++ 61 :: r)).extract 0 (Int.toNat (a.length : Int))), ext_l, toB_list]
    simp
  · rw [← of_list ((toB (a ++ 61 :: r)).extract ((a.length : Int) + 1).toNat _), ext_l, toB_list, hz]
    congr 1
    rw [show ((a.length : Int) + 1).toNat = a.length + 1 by omega, show a.length + 1 + r.length - (a.length + 1) = r.length by omega]
    have : (a ++ 61 :: r).drop (a.length + 1) = r := by simp
    rw [this, List.take_length]
theorem of_one (x : S40) (s : List UInt8) (hx : isOf [ccU] x = true) (h1 : x.f1 = toB s) : ofV [x] = allC noneC ((listL (s.length + 1) s).map toB) := by
  have a3 : allV ccU [x] = [toB s] := by unfold allV; rw [List.filter_cons_of_pos hx, ← h1]; rfl
  have j : joinB [toB s] commaB = s := by simp [joinB, Lib.join, toB]
  unfold ofV finV
  rw [if_neg (by unfold pragV; rw [a3]; simp)]
  congr 1
  unfold elemsB getB
  rw [a3, j]
  simp [ByteArray.size]

/-! ## ControlFlags -/
def ccX : ByteArray := ⟨#[99, 97, 99, 104, 101, 45, 67, 79, 78, 84, 82, 79, 76]⟩
theorem cc_cx : sameB ccU ccX = true := by decide +kernel
theorem sz_toB (l : List UInt8) : (toB l).size = l.length := by rw [size_l, toB_list]
theorem toB_app (a b : List UInt8) : toB a ++ toB b = toB (a ++ b) := by
  rw [← of_list (toB a ++ toB b), ByteArray.data_append, Array.toList_append, toB_list, toB_list]
theorem endF_all (a : List UInt8) (h : ∀ c ∈ a, c ≠ 34 ∧ c ≠ 44) : endL false a = a.length := by
  have := endF_app a [] h
  rw [List.append_nil] at this
  rw [this]
  simp [endL]
theorem idx_no (c : UInt8) : ∀ a : List UInt8, (∀ x ∈ a, x ≠ c) → Lib.indexByte a c = -1 := by
  intro a
  induction a with
  | nil => intro _; rfl
  | cons x a ih =>
    intro h
    unfold Lib.indexByte
    rw [if_neg (by simpa using h x (by simp)), ih (fun y hy => h y (by simp [hy])), if_pos (by decide)]
theorem cut_no (a : List UInt8) (h : ∀ x ∈ a, x ≠ 61) : cutA (toB a) = toB a := by
  have e : cutI (toB a) = -1 := by unfold cutI; rw [toB_list]; exact idx_no 61 a h
  unfold cutA
  rw [e, if_neg (by omega)]
theorem trim_sign (c : UInt8) (m arg : List UInt8) (hc : [32, 9].contains c = false) : ∃ r, trimL ((c :: m) ++ 61 :: arg) = (c :: m) ++ 61 :: r := by
  refine ⟨(arg.reverse.dropWhile fun x => [32, 9].contains x).reverse, ?_⟩
  unfold trimL Lib.trimS Lib.trimRightS Lib.trimLeftS
  have e1 : ((c :: m) ++ 61 :: arg).reverse = arg.reverse ++ 61 :: (c :: m).reverse := by simp
  have e2 : ((c :: m) ++ 61 :: arg).reverse.dropWhile (fun x => [32, 9].contains x) = arg.reverse.dropWhile (fun x => [32, 9].contains x) ++ 61 :: (c :: m).reverse := by
    rw [e1, List.dropWhile_append]
    split
    · next h =>
      have h0 : arg.reverse.dropWhile (fun x => ([32, 9] : List UInt8).contains x) = [] := by simpa using h
      rw [h0, List.dropWhile_cons_of_neg (by decide)]
      rfl
    · rfl
  have e3 : (((c :: m) ++ 61 :: arg).reverse.dropWhile (fun x => [32, 9].contains x)).reverse = (c :: m) ++ 61 :: (arg.reverse.dropWhile fun x => [32, 9].contains x).reverse := by rw [e2]; simp
  rw [e3, List.cons_append, List.dropWhile_cons_of_neg (by rw [hc]; simp)]
def fl (nm X : List UInt8) : Bool := (lowB (toB nm)).toList == X
def chk (nm : List UInt8) (x : Int) : Bool :=
  (nm.all fun c => c != 34 && c != 44 && c != 61 && c != 32 && c != 9) && (nm != []) && decide (nm.length ≤ 40) &&
  (fl nm nNoStore == (x == 0)) && (fl nm nNoCache == (x == 1)) && (fl nm nPrivate == (x == 2)) && (fl nm nPublic == (x == 3)) && ((fl nm nMust || fl nm nProxy) == ((wrap64 (Int.tdiv x 2)) == 2)) && (fl nm nOnly == (x == 6)) &&
  (fl nm nMax == false) && (fl nm nShared == false) && (fl nm nFresh == false) && (fl nm nStale == false)
def okT (t : Bool × Bool × Bool × Bool × Bool × Bool × Int × Int × Int × Int) (x : Int) : Bool :=
  (t.1 == (x == 0) && (t.2.1 == (x == 1) && (t.2.2.1 == (x == 2) && (t.2.2.2.1 == (x == 3) && (t.2.2.2.2.1 == ((wrap64 (Int.tdiv x 2)) == 2) && (t.2.2.2.2.2.1 == (x == 6) && (t.2.2.2.2.2.2.1 == (-1) && (t.2.2.2.2.2.2.2.1 == (-1) && (t.2.2.2.2.2.2.2.2.1 == (-1) && (t.2.2.2.2.2.2.2.2.2 == (-1)))))))))))
theorem chk_plain {nm : List UInt8} {x : Int} (h : chk nm x = true) : (∀ c ∈ nm, c ≠ 34 ∧ c ≠ 44 ∧ c ≠ 61 ∧ c ≠ 32 ∧ c ≠ 9) ∧ nm ≠ [] ∧ nm.length ≤ 40 := by
  unfold chk at h
  simp only [Bool.and_eq_true] at h
  obtain ⟨⟨⟨⟨⟨⟨⟨⟨⟨⟨⟨⟨h1, h2⟩, h3⟩, -⟩, -⟩, -⟩, -⟩, -⟩, -⟩, -⟩, -⟩, -⟩, -⟩ := h
  refine ⟨fun c hc => ?_, by simpa using h2, by simpa using h3⟩
  have := List.all_eq_true.1 h1 c hc
  simp only [Bool.and_eq_true, bne_iff_ne] at this
  exact ⟨this.1.1.1.1, this.1.1.1.2, this.1.1.2, this.1.2, this.2⟩
theorem one_ok {nm : List UInt8} {x : Int} (h : chk nm x = true) (e : ByteArray) (hc : cutA e = toB nm) : okT (ctTup (oneV noneC e)) x = true := by
  unfold chk at h
  simp only [Bool.and_eq_true] at h
  obtain ⟨⟨⟨⟨⟨⟨⟨⟨⟨⟨-, g0⟩, g1⟩, g2⟩, g3⟩, g4⟩, g5⟩, g6⟩, g7⟩, g8⟩, g9⟩ := h
  have hn : ∀ X, nmIs e X = fl nm X := fun X => by unfold nmIs fl; rw [hc]
  have m6 : fl nm nMax = false := by simpa using g6
  have m7 : fl nm nShared = false := by simpa using g7
  have m8 : fl nm nFresh = false := by simpa using g8
  have m9 : fl nm nStale = false := by simpa using g9
  have ev : ctTup (oneV noneC e) = (fl nm nNoStore, fl nm nNoCache, fl nm nPrivate, fl nm nPublic, (fl nm nMust || fl nm nProxy), fl nm nOnly, -1, -1, -1, -1) := by
    unfold ctTup oneV
    simp only [hn, m6, m7, m8, m9]
    rfl
  rw [ev]
  unfold okT
  simp only [g0, g1, g2, g3, g4, g5]
  rfl
theorem flag_ask {nm : List UInt8} {x : Int} (h : chk nm x = true) (s : ByteArray) (e : List UInt8) (hl : listL (s.size + 1) s.data.toList = [e]) (hc : cutA (toB e) = toB nm) (hs : s.size ≤ 1000) (k : Nat) (hk : 3000100 < k) : ∃ t, pantrylaw04_of.f k s = some t ∧ okT t x = true := by
  obtain ⟨f, hf⟩ : ∃ f : S40, f = ⟨ccX, s⟩ := ⟨_, rfl⟩
  have sx : f.f0.size ≤ 200 ∧ f.f1.size ≤ 1100 := by rw [hf]; exact ⟨(by decide : ccX.size ≤ 200), by show s.size ≤ 1100; omega⟩
  have m3 : SmallF [f] := ⟨by simp, fun g hg => by obtain rfl := List.mem_singleton.1 hg; exact sx⟩
  have nx : isOf [ccU] f = true := by rw [hf]; simp [isOf, cc_cx]
  have h1 : f.f1 = toB s.data.toList := by rw [hf]; exact (of_list s).symm
  have v : ofV [f] = oneV noneC (toB e) := by
    rw [of_one f s.data.toList nx h1, ← size_l, hl]
    rfl
  refine ⟨ctTup (ofV [f]), ?_, ?_⟩
  · unfold pantrylaw04_of.f
    have e2 : control_Of.f k [(⟨(⟨#[99, 97, 99, 104, 101, 45, 67, 79, 78, 84, 82, 79, 76]⟩ : ByteArray), s⟩ : S40)] = some (ctTup (ofV [f])) := by rw [← of_eval [f] m3 k (by omega), hf]; rfl
    rw [e2]
    rfl
  · rw [v]
    exact one_ok h _ hc
theorem keep_name {nm : List UInt8} (hp : ∀ c ∈ nm, c ≠ 34 ∧ c ≠ 44 ∧ c ≠ 61 ∧ c ≠ 32 ∧ c ≠ 9) (h0 : nm ≠ []) : keepL nm = [nm] := by
  obtain ⟨m', d, hd⟩ : ∃ m' d, nm = m' ++ [d] := ⟨nm.dropLast, nm.getLast h0, (List.dropLast_concat_getLast h0).symm⟩
  obtain ⟨c, m, hm⟩ : ∃ c m, nm = c :: m := by
    cases nm with
    | nil => exact absurd rfl h0
    | cons c m => exact ⟨c, m, rfl⟩
  have hc := hp c (by rw [hm]; simp)
  have hdd := hp d (by rw [hd]; simp)
  exact keepL_at [] nm m m' c d (by simp) hm hd (by simp [hc.2.2.2.1, hc.2.2.2.2]) (by simp [hdd.2.2.2.1, hdd.2.2.2.2])
theorem flags_two {nm : List UInt8} {x : Int} (h : chk nm x = true) (arg : ByteArray) (ha : arg.size ≤ 50) (hq : ∀ c ∈ arg.data.toList, c ≠ 34 ∧ c ≠ 44) (k : Nat) (hk : 3000100 < k) :
    ((pantrylaw04_of.f k (toB nm)).bind fun bt => (if okT bt x = true then (if (toB nm).size + 1 ≤ 9223372036854775807 then (if ((toB nm) ++ (⟨#[61]⟩ : ByteArray)).size + arg.size ≤ 9223372036854775807 then ((pantrylaw04_of.f k (((toB nm) ++ (⟨#[61]⟩ : ByteArray)) ++ arg)).bind fun bt2 => (some (okT bt2 x))) else (none)) else (none)) else (none))) = some true := by
  obtain ⟨hp, h0, hlen⟩ := chk_plain h
  have hp2 : ∀ c ∈ nm, c ≠ 34 ∧ c ≠ 44 := fun c hc => ⟨(hp c hc).1, (hp c hc).2.1⟩
  have hp3 : ∀ c ∈ nm, c ≠ 61 := fun c hc => (hp c hc).2.2.1
  have l1 : listL ((toB nm).size + 1) (toB nm).data.toList = [nm] := by
    rw [toB_list, listL_last _ nm (endF_all nm hp2), keep_name hp h0]
  obtain ⟨t1, e1, o1⟩ := flag_ask h (toB nm) nm l1 (cut_no nm hp3) (by rw [sz_toB]; omega) k hk
  obtain ⟨c, m, hm⟩ : ∃ c m, nm = c :: m := by
    cases nm with
    | nil => exact absurd rfl h0
    | cons c m => exact ⟨c, m, rfl⟩
  have hc := hp c (by rw [hm]; simp)
  obtain ⟨r, hr⟩ := trim_sign c m arg.data.toList (by simp [hc.2.2.2.1, hc.2.2.2.2])
  rw [← hm] at hr
  have eS : (toB nm ++ (⟨#[61]⟩ : ByteArray)) ++ arg = toB (nm ++ 61 :: arg.data.toList) := by
    rw [show (⟨#[61]⟩ : ByteArray) = toB [61] from rfl, toB_app]
    conv => lhs; rw [← of_list arg]
    rw [toB_app, List.append_assoc]
    rfl
  have sS : (toB (nm ++ 61 :: arg.data.toList)).size = nm.length + 1 + arg.size := by
    rw [sz_toB, List.length_append, List.length_cons, ← size_l]
    omega
  have l2 : listL ((toB (nm ++ 61 :: arg.data.toList)).size + 1) (toB (nm ++ 61 :: arg.data.toList)).data.toList = [nm ++ 61 :: r] := by
    rw [toB_list, listL_last _ (nm ++ 61 :: arg.data.toList) (endF_all _ fun x hx => by
      rcases List.mem_append.1 hx with hx | hx
      · exact hp2 x hx
      · rcases List.mem_cons.1 hx with rfl | hx
        · decide
        · exact hq x hx)]
    unfold keepL
    rw [hr, if_neg (by simp)]
  obtain ⟨t2, e2, o2⟩ := flag_ask h _ (nm ++ 61 :: r) l2 (cut_at nm r hp3).1 (by rw [sS]; omega) k hk
  rw [e1]
  simp only [Option.bind_some]
  have z1 : (toB nm).size = nm.length := sz_toB nm
  have z2 : ((toB nm) ++ (⟨#[61]⟩ : ByteArray)).size = nm.length + 1 := by rw [ByteArray.size_append, z1]; rfl
  rw [if_pos o1, z1, z2, if_pos (by omega), if_pos (by omega), eS, e2]
  simp only [Option.bind_some]
  rw [o2]
def names8 : List ByteArray := [(⟨#[110, 111, 45, 115, 116, 111, 114, 101]⟩ : ByteArray), (⟨#[110, 111, 45, 99, 97, 99, 104, 101]⟩ : ByteArray), (⟨#[112, 114, 105, 118, 97, 116, 101]⟩ : ByteArray), (⟨#[112, 117, 98, 108, 105, 99]⟩ : ByteArray), (⟨#[109, 117, 115, 116, 45, 114, 101, 118, 97, 108, 105, 100, 97, 116, 101]⟩ : ByteArray), (⟨#[112, 114, 111, 120, 121, 45, 114, 101, 118, 97, 108, 105, 100, 97, 116, 101]⟩ : ByteArray), (⟨#[111, 110, 108, 121, 45, 105, 102, 45, 99, 97, 99, 104, 101, 100]⟩ : ByteArray), (⟨#[110, 111, 45, 116, 114, 97, 110, 115, 102, 111, 114, 109]⟩ : ByteArray)]
def nameL (j : Nat) : List UInt8 := (rdOf ByteArray.empty names8 (j : Int)).data.toList
theorem name_all : ∀ j : Fin 8, chk (nameL j.val) (j.val : Int) = true ∧ chk (greatL (nameL j.val)) (j.val : Int) = true := by decide +kernel
theorem great_all : ∀ j : Fin 8, greatB.f (rdOf ByteArray.empty names8 (j.val : Int)) = some (toB (greatL (nameL j.val))) := by decide +kernel
theorem flags_end (j : Nat) (hj : j < 8) (g : Bool) (arg : ByteArray) (ha : arg.size ≤ 50) (hq : ∀ c ∈ arg.data.toList, c ≠ 34 ∧ c ≠ 44) (k : Nat) (hk : 3000100 < k) : pantrylaw04_ControlFlags.l0 (k + 1) (j : Int) g arg (arg.size : Int) (arg.size : Int) = some true := by
  have hn : control_None.f = some (ctTup noneC) := rfl
  have hch := name_all ⟨j, hj⟩
  have hgr := great_all ⟨j, hj⟩
  simp only at hch hgr
  have hr : rdOf ByteArray.empty names8 (j : Int) = toB (nameL j) := (of_list _).symm
  simp only [pantrylaw04_ControlFlags.l0]
  rw [if_neg (by omega)]
  change (some names8).bind _ = _
  rw [Option.bind_some, if_pos (by omega), if_pos (by rw [show names8.length = 8 from rfl]; omega), hn]
  simp only [Option.bind_some]
  cases g with
  | true =>
    rw [if_pos rfl, hgr]
    simp only [Option.bind_some]
    exact flags_two hch.2 arg ha hq k hk
  | false =>
    rw [if_neg (by simp), hr]
    exact flags_two hch.1 arg ha hq k hk
theorem flags_l0 (j : Nat) (hj : j < 8) (g : Bool) (arg : ByteArray) (ha : arg.size ≤ 50) : ∀ (d i k : Nat), i + d = arg.size → d + 3000101 < k → (∀ c ∈ arg.data.toList.take i, c ≠ 34 ∧ c ≠ 44) →
    pantrylaw04_ControlFlags.l0 k (j : Int) g arg (arg.size : Int) (i : Int) = some true := by
  intro d
  induction d with
  | zero =>
    intro i k hi hk hT
    obtain ⟨k, rfl⟩ : ∃ j, k = j + 1 := ⟨k - 1, by omega⟩
    obtain rfl : i = arg.size := by omega
    rw [List.take_of_length_le (by rw [← size_l]; omega)] at hT
    exact flags_end j hj g arg ha hT k (by omega)
  | succ d ih =>
    intro i k hi hk hT
    obtain ⟨k, rfl⟩ : ∃ j, k = j + 1 := ⟨k - 1, by omega⟩
    have hlt : i < arg.data.toList.length := by rw [← size_l]; omega
    have hb := bt_at2 arg i hlt
    simp only [pantrylaw04_ControlFlags.l0]
    rw [if_pos (by omega), if_pos (by omega), if_pos (by omega)]
    by_cases h1 : bt arg (i : Int) = 44
    · rw [if_pos h1]
    · rw [if_neg h1]
      by_cases h2 : bt arg (i : Int) = 34
      · rw [if_pos h2]
      · rw [if_neg h2, w64n (by omega) (by omega)]
        have := ih (i + 1) k (by omega) (by omega) (fun c hc => by
          rw [List.take_succ_eq_append_getElem hlt] at hc
          rcases List.mem_append.1 hc with hc | hc
          · exact hT c hc
          · obtain rfl := List.mem_singleton.1 hc
            rw [hb] at h1 h2
            exact ⟨fun e => h2 (by rw [e]; rfl), fun e => h1 (by rw [e]; rfl)⟩)
        rwa [show ((i + 1 : Nat) : Int) = (i : Int) + 1 by omega] at this
theorem law_ControlFlags (w : Int) (g : Bool) (arg : ByteArray) : ∃ k, pantrylaw04_ControlFlags.f k w g arg = some true := by
  obtain ⟨K, hK⟩ : ∃ K, 6000000 ≤ K := ⟨_, Nat.le_refl _⟩
  refine ⟨K + 1, ?_⟩
  have jt : pantrylaw04_ControlFlags.j0 (K + 1) w g arg true = some true := by simp [pantrylaw04_ControlFlags.j0]
  unfold pantrylaw04_ControlFlags.f
  rw [anchor_ok _ (by omega)]
  simp only [Option.bind_some]
  rw [if_pos trivial]
  by_cases h1 : w < 0
  · rw [if_pos h1]; exact jt
  rw [if_neg h1]
  by_cases h2 : w > 7
  · rw [if_pos h2]; exact jt
  rw [if_neg h2]
  by_cases h3 : (arg.size : Int) > 50
  · rw [decide_eq_true h3]; exact jt
  rw [decide_eq_false h3]
  obtain ⟨j, rfl⟩ := Int.eq_ofNat_of_zero_le (show 0 ≤ w by omega)
  simp only [pantrylaw04_ControlFlags.j0]
  rw [if_neg (by simp)]
  exact flags_l0 j (by omega) g arg (by omega) arg.size 0 K (by omega) (by omega) (by simp)

end Go.Proofs.YtboeabdfnijaaaaDoor.PAll
