import Derived.Test.YtcechlbeghcliaaDoorPAllx0
import Derived.Test.YtcechlbeghcliaaDoorPAllx1
import Derived.Test.YtcechlbeghcliaaDoorPAllx2
import Derived.Test.YtcechlbeghcliaaDoorPAllx3
import Derived.Test.YtcechlbeghcliaaDoorPAllx4
import Derived.Test.YtcechlbeghcliaaDoorPAllx5
import Derived.Test.YtcechlbeghcliaaDoorPAllx6
import Derived.Test.YtcechlbeghcliaaDoorPAllx7
import Derived.Lib.Join
namespace Go.Proofs.YtcechlbeghcliaaDoor.PAll
open Go.RowKit Go.Proofs.YtcechlbeghcliaaDoorW.PrintWords Go.Proofs.YtcechlbeghcliaaDoorW.PrintLast Go.Proofs.YtcechlbeghcliaaDoorW.PrintMore
set_option linter.unusedVariables false
set_option linter.unusedSimpArgs false

theorem lowB_list (s : ByteArray) : (lowB s).data.toList = lowL s.data.toList := by simp [lowB]

theorem bt_at2 (s : ByteArray) (i : Nat) (h : i < s.data.toList.length) : bt s (i : Int) = ((s.data.toList[i]).toNat : Int) := by
  have h' : i < s.size := by simpa using h
  unfold bt
  simp only [Int.toNat_natCast]
  rw [dif_pos h']
  rfl

/-! What Without comes to (where With is not printed) -/
def isOf (ns : List ByteArray) (o : S49) : Bool := ns.any fun n => sameB n o.f0
def wout (ns : List ByteArray) (l : List S49) : List S49 := l.filter fun o => !isOf ns o
theorem w64n {x : Int} (h0 : -9223372036854775808 ≤ x) (h1 : x ≤ 9223372036854775807) : wrap64 x = x := by unfold wrap64; omega
theorem wout_l0 (ns : List ByteArray) (l : List S49) (hn : ns.length ≤ 140737488351232) (hns : ∀ x ∈ ns, x.size ≤ 140737488351232) (hl : ∀ x ∈ l, x.f0.size ≤ 140737488351232) (hlen : l.length < 4398046511104) :
    ∀ (d i : Nat) (acc : List S49) (k : Nat), i + d = l.length → acc.length ≤ i → d < k →
    field_List_Without.l0 k ns acc l (l.length : Int) (i : Int) = some (acc ++ wout ns (l.drop i)) := by
  intro d
  induction d with
  | zero =>
    intro i acc k hi ha hk
    obtain ⟨k, rfl⟩ : ∃ j, k = j + 1 := ⟨k - 1, by omega⟩
    simp only [field_List_Without.l0]
    rw [if_neg (by omega), List.drop_of_length_le (by omega)]
    simp [wout]
  | succ d ih =>
    intro i acc k hi ha hk
    obtain ⟨k, rfl⟩ : ∃ j, k = j + 1 := ⟨k - 1, by omega⟩
    have hlt : i < l.length := by omega
    have hx : rd_T49 l (i : Int) = l[i] := by simp [rd_T49, hlt]
    simp only [field_List_Without.l0]
    rw [if_pos (by omega), if_pos (by omega), if_pos (by omega), hx]
    unfold field_Field_named.f
    rw [if_pos ⟨hl _ (List.getElem_mem hlt), hn, hns⟩]
    simp only [Option.bind_some]
    rw [List.drop_eq_getElem_cons hlt, w64n (by omega) (by omega)]
    by_cases hs : isOf ns l[i] = true
    · have hs' : (ns.any fun n => sameB n l[i].f0) = true := hs
      rw [if_pos hs']
      have := ih (i + 1) acc k (by omega) (by omega) (by omega)
      rw [show ((i + 1 : Nat) : Int) = (i : Int) + 1 by omega] at this
      rw [this]
      unfold wout
      rw [List.filter_cons_of_neg (by simp [hs])]
    · have hs' : ¬ (ns.any fun n => sameB n l[i].f0) = true := hs
      rw [if_neg hs', if_pos (by omega)]
      have := ih (i + 1) (acc ++ [l[i]]) k (by omega) (by simp; omega) (by omega)
      rw [show ((i + 1 : Nat) : Int) = (i : Int) + 1 by omega] at this
      rw [this]
      unfold wout
      rw [List.filter_cons_of_pos (by simp [hs]), List.append_assoc]
      rfl
theorem wout_f (ns : List ByteArray) (l : List S49) (hn : ns.length ≤ 140737488351232) (hns : ∀ x ∈ ns, x.size ≤ 140737488351232) (hl : ∀ x ∈ l, x.f0.size ≤ 140737488351232) (hlen : l.length < 4398046511104) (k : Nat) (hk : l.length < k) :
    field_List_Without.f k l ns = some (wout ns l) := by
  unfold field_List_Without.f
  have := wout_l0 ns l hn hns hl hlen l.length 0 [] k (by omega) (by simp) hk
  simpa using this

/-! ## Fields, as lists -/
theorem anchor60 : pantrylaw13_anchor.f 60 = some true := by decide +kernel
theorem anchor_ok (k : Nat) (hk : 60 ≤ k) : pantrylaw13_anchor.f k = some true := by
  obtain ⟨j, rfl⟩ : ∃ j, k = 60 + j := ⟨k - 60, by omega⟩
  clear hk
  induction j with
  | zero => exact anchor60
  | succ j ih => exact pantrylaw13_anchor.mono _ _ ih
theorem rd39 (l : List S49) (i : Nat) (h : i < l.length) : rd_T49 l (i : Int) = l[i] := by simp [rd_T49, h]
theorem rdB (l : List ByteArray) (i : Nat) (h : i < l.length) : rdOf ByteArray.empty l (i : Int) = l[i] := by simp [rdOf, h]
def SmallF (l : List S49) : Prop := l.length ≤ 70 ∧ ∀ f ∈ l, f.f0.size ≤ 200 ∧ f.f1.size ≤ 9100
def SmallP (l : List S49) : Prop := l.length ≤ 30 ∧ ∀ f ∈ l, f.f0.size ≤ 100 ∧ f.f1.size ≤ 300
theorem SmallP.F {l : List S49} (h : SmallP l) : SmallF l := ⟨by have := h.1; omega, fun f hf => by have := h.2 f hf; omega⟩

/-! ## All, Get, Same -/
def allV (n : ByteArray) (l : List S49) : List ByteArray := (l.filter (isOf [n])).map (·.f1)
theorem all_l0 (n : ByteArray) (l : List S49) (hn : n.size ≤ 140737488351232) (hl : ∀ x ∈ l, x.f0.size ≤ 140737488351232) (hlen : l.length < 4398046511104) :
    ∀ (d i : Nat) (acc : List ByteArray) (k : Nat), i + d = l.length → acc.length ≤ i → d < k →
    field_List_All.l0 k n acc l (l.length : Int) (i : Int) = some (acc ++ allV n (l.drop i)) := by
  intro d
  induction d with
  | zero =>
    intro i acc k hi ha hk
    obtain ⟨k, rfl⟩ : ∃ j, k = j + 1 := ⟨k - 1, by omega⟩
    simp only [field_List_All.l0]
    rw [if_neg (by omega), List.drop_of_length_le (by omega)]
    simp [allV]
  | succ d ih =>
    intro i acc k hi ha hk
    obtain ⟨k, rfl⟩ : ∃ j, k = j + 1 := ⟨k - 1, by omega⟩
    have hlt : i < l.length := by omega
    simp only [field_List_All.l0]
    rw [if_pos (by omega), if_pos (by omega), if_pos (by omega), rd39 l i hlt]
    unfold field_Field_named.f
    rw [if_pos ⟨hl _ (List.getElem_mem hlt), by simp, by simpa using hn⟩]
    simp only [Option.bind_some]
    rw [List.drop_eq_getElem_cons hlt, w64n (by omega) (by omega)]
    by_cases hs : isOf [n] l[i] = true
    · have hs' : ([n].any fun n => sameB n l[i].f0) = true := hs
      rw [if_pos hs', if_pos (by omega)]
      have := ih (i + 1) (acc ++ [l[i].f1]) k (by omega) (by simp; omega) (by omega)
      rw [show ((i + 1 : Nat) : Int) = (i : Int) + 1 by omega] at this
      rw [this]
      unfold allV
      rw [List.filter_cons_of_pos hs, List.append_assoc]
      rfl
    · have hs' : ¬ ([n].any fun n => sameB n l[i].f0) = true := hs
      rw [if_neg hs']
      have := ih (i + 1) acc k (by omega) (by omega) (by omega)
      rw [show ((i + 1 : Nat) : Int) = (i : Int) + 1 by omega] at this
      rw [this]
      unfold allV
      rw [List.filter_cons_of_neg hs]
theorem all_eval (n : ByteArray) (l : List S49) (hn : n.size ≤ 140737488351232) (hl : ∀ x ∈ l, x.f0.size ≤ 140737488351232) (hlen : l.length < 4398046511104) (k : Nat) (hk : l.length < k) : field_List_All.f k l n = some (allV n l) := by
  unfold field_List_All.f
  have := all_l0 n l hn hl hlen l.length 0 [] k (by omega) (by simp) hk
  simpa using this
theorem inter_len (sep : List UInt8) (M : Nat) : ∀ (xs : List (List UInt8)), (∀ x ∈ xs, x.length ≤ M) → (sep.intercalate xs).length ≤ xs.length * (M + sep.length) := by
  intro xs
  induction xs with
  | nil => intro _; simp [List.intercalate]
  | cons x xs ih =>
    intro h
    have h1 := h x (by simp)
    have h2 := ih (fun y hy => h y (by simp [hy]))
    cases xs with
    | nil => simp [List.intercalate]; omega
    | cons y ys =>
      have e : sep.intercalate (x :: y :: ys) = x ++ (sep ++ sep.intercalate (y :: ys)) := by simp [List.intercalate]
      rw [e]
      simp only [List.length_append, List.length_cons, Nat.add_mul, Nat.one_mul] at *
      omega
theorem get_eval (n : ByteArray) (l : List S49) (hn : n.size ≤ 140737488351232) (hs : ∀ x ∈ l, x.f0.size ≤ 200 ∧ x.f1.size ≤ 9100) (hlen : l.length ≤ 1000000) (k : Nat) (hk : l.length < k) :
    field_List_Get.f k l n = some (⟨(joinB (allV n l) ⟨#[44, 32]⟩).toArray⟩, decide (0 < (allV n l).length)) := by
  unfold field_List_Get.f
  rw [all_eval n l hn (fun x hx => by have := (hs x hx).1; omega) (by omega) k hk]
  simp only [Option.bind_some]
  have hle : (allV n l).length ≤ l.length := by
    unfold allV
    rw [List.length_map]
    exact List.length_filter_le _ _
  have hok : joinOk (allV n l) ⟨#[44, 32]⟩ := by
    refine ⟨by omega, ?_⟩
    unfold joinB Lib.join
    have := inter_len (⟨#[44, 32]⟩ : ByteArray).data.toList 9100 ((allV n l).map (·.data.toList)) (fun x hx => by
      obtain ⟨y, hy, rfl⟩ := List.mem_map.1 hx
      unfold allV at hy
      obtain ⟨f, hf, rfl⟩ := List.mem_map.1 hy
      have := (hs f (List.mem_filter.1 hf).1).2
      simpa using this)
    rw [List.length_map] at this
    have h2 : ((⟨#[44, 32]⟩ : ByteArray).data.toList).length = 2 := rfl
    rw [h2] at this
    have : (allV n l).length * (9100 + 2) ≤ 1000000 * 9102 := Nat.mul_le_mul_right _ (by omega)
    omega
  unfold strings_Join.f
  rw [if_pos hok]
  simp only [Option.bind_some]
  congr 2
  rw [decide_eq_decide]
  omega

/-! ## FieldParts -/
theorem inter_app (sep : List UInt8) : ∀ (A B : List (List UInt8)), A ≠ [] → B ≠ [] → sep.intercalate (A ++ B) = sep.intercalate A ++ (sep ++ sep.intercalate B) := by
  intro A
  induction A with
  | nil => intro B h; exact absurd rfl h
  | cons x A ih =>
    intro B _ hB
    cases A with
    | nil =>
      cases B with
      | nil => exact absurd rfl hB
      | cons y ys => simp [List.intercalate]
    | cons z A =>
      have := ih B (by simp) hB
      have e1 : sep.intercalate (x :: z :: A) = x ++ (sep ++ sep.intercalate (z :: A)) := by simp [List.intercalate]
      have e2 : sep.intercalate (x :: z :: A ++ B) = x ++ (sep ++ sep.intercalate (z :: A ++ B)) := by simp [List.intercalate]
      rw [e1, e2, this]
      simp
def commaB : ByteArray := ⟨#[44, 32]⟩
def getB (n : ByteArray) (l : List S49) : ByteArray := ⟨(joinB (allV n l) commaB).toArray⟩
theorem getB_list (n : ByteArray) (l : List S49) : (getB n l).toList = joinB (allV n l) commaB := by
  rw [ByteArray.toList_eq]
  simp [getB]
theorem allV_app (n : ByteArray) (a b : List S49) : allV n (a ++ b) = allV n a ++ allV n b := by
  unfold allV
  rw [List.filter_append, List.map_append]
theorem joinB_app (A B : List ByteArray) (hA : A ≠ []) (hB : B ≠ []) : joinB (A ++ B) commaB = joinB A commaB ++ ([44, 32] ++ joinB B commaB) := by
  unfold joinB Lib.join
  rw [List.map_append]
  exact inter_app _ _ _ (by simpa using hA) (by simpa using hB)
theorem getB_size (n : ByteArray) (l : List S49) (h : SmallF l) : (getB n l).size ≤ 640000 := by
  have hle : (allV n l).length ≤ l.length := by
    unfold allV
    rw [List.length_map]
    exact List.length_filter_le _ _
  have := inter_len commaB.data.toList 9100 ((allV n l).map (·.data.toList)) (fun x hx => by
    obtain ⟨y, hy, rfl⟩ := List.mem_map.1 hx
    unfold allV at hy
    obtain ⟨f, hf, rfl⟩ := List.mem_map.1 hy
    have := (h.2 f (List.mem_filter.1 hf).1).2
    simpa using this)
  rw [List.length_map] at this
  have h2 : (commaB.data.toList).length = 2 := rfl
  rw [h2] at this
  have h3 : (allV n l).length * (9100 + 2) ≤ 70 * 9102 := Nat.mul_le_mul_right _ (by have := h.1; omega)
  have h4 : (getB n l).size = (joinB (allV n l) commaB).length := by
    show (joinB (allV n l) commaB).toArray.size = _
    simp
  rw [h4]
  show (List.intercalate _ _).length ≤ _
  omega

/-! ## Lists of elements -/
def endL : Bool → List UInt8 → Nat
  | _, [] => 0
  | q, [c] => if c = 34 then 1 else if q = true ∧ c = 92 then 1 else if q = false ∧ c = 44 then 0 else 1
  | q, c :: d :: l => if c = 34 then 1 + endL (!q) (d :: l) else if q = true ∧ c = 92 then 2 + endL q l else if q = false ∧ c = 44 then 0 else 1 + endL q (d :: l)
theorem endL_le : ∀ (n : Nat) (l : List UInt8) (q : Bool), l.length ≤ n → endL q l ≤ l.length := by
  intro n
  induction n with
  | zero =>
    intro l q h
    obtain rfl := List.eq_nil_of_length_eq_zero (by omega : l.length = 0)
    simp [endL]
  | succ n ih =>
    intro l q h
    match l, h with
    | [], _ => simp [endL]
    | [c], _ =>
      unfold endL
      simp only [List.length_cons, List.length_nil]
      split
      · omega
      · split
        · omega
        · split <;> omega
    | c :: d :: l, h =>
      simp only [List.length_cons] at h
      have h1 := ih (d :: l) (!q) (by simp; omega)
      have h2 := ih l q (by omega)
      have h3 := ih (d :: l) q (by simp; omega)
      unfold endL
      simp only [List.length_cons] at *
      split
      · omega
      · split
        · omega
        · split <;> omega
theorem u8_eq (c d : UInt8) : ((c.toNat : Int) = (d.toNat : Int)) ↔ c = d := by
  constructor
  · intro h
    exact UInt8.toNat_inj.1 (by omega)
  · rintro rfl; rfl
theorem end_past (s : ByteArray) (q : Bool) (i : Nat) (h : s.size ≤ i) (k : Nat) (hk : 0 < k) : sign_end.l0 k s q (i : Int) = some (s.size : Int) := by
  obtain ⟨k, rfl⟩ : ∃ j, k = j + 1 := ⟨k - 1, by omega⟩
  simp only [sign_end.l0]
  rw [if_neg (by omega)]
theorem end_l0 (s : ByteArray) (hs : s.size ≤ 1000000000) : ∀ (d i k : Nat) (q : Bool), i + d = s.size → 2 * d + 1 < k → sign_end.l0 k s q (i : Int) = some ((i + endL q (s.data.toList.drop i) : Nat) : Int) := by
  intro d
  induction d using Nat.strongRecOn with
  | _ d ih =>
    intro i k q hi hk
    have hz : s.data.toList.length = s.size := by simp
    cases d with
    | zero =>
      rw [end_past s q i (by omega) k (by omega), List.drop_of_length_le (by omega)]
      simp only [endL]
      congr 2
      omega
    | succ d =>
      obtain ⟨k, rfl⟩ : ∃ j, k = j + 1 := ⟨k - 1, by omega⟩
      have hlt : i < s.data.toList.length := by omega
      have n1 : ∀ (kk : Nat), 2 * d + 1 < kk → ∀ (q : Bool), sign_end.l0 kk s q ((i : Int) + 1) = some ((i + 1 + endL q (s.data.toList.drop (i + 1)) : Nat) : Int) := fun kk hkk q => by
        have := ih d (by omega) (i + 1) kk q (by omega) hkk
        rwa [show ((i + 1 : Nat) : Int) = (i : Int) + 1 by omega] at this
      have n2 : d = 0 ∨ 0 < d ∧ ∀ (kk : Nat), 2 * d < kk → ∀ (q : Bool), sign_end.l0 kk s q ((i : Int) + 1 + 1) = some ((i + 2 + endL q (s.data.toList.drop (i + 2)) : Nat) : Int) := by
        rcases Nat.eq_zero_or_pos d with h | h
        · exact .inl h
        · refine .inr ⟨h, fun kk hkk q => ?_⟩
          have := ih (d - 1) (by omega) (i + 2) kk q (by omega) (by omega)
          rwa [show ((i + 2 : Nat) : Int) = (i : Int) + 1 + 1 by omega] at this
      simp only [sign_end.l0]
      have hbt := bt_at2 s i hlt
      rw [if_pos (by omega), if_pos (by omega), hbt, w64n (by omega) (by omega)]
      rw [List.drop_eq_getElem_cons hlt]
      have e34 : ((s.data.toList[i]).toNat : Int) = 34 ↔ s.data.toList[i] = 34 := u8_eq _ 34
      have e92 : ((s.data.toList[i]).toNat : Int) = 92 ↔ s.data.toList[i] = 92 := u8_eq _ 92
      have e44 : ((s.data.toList[i]).toNat : Int) = 44 ↔ s.data.toList[i] = 44 := u8_eq _ 44
      generalize s.data.toList[i] = c at *
      have hstep : ∀ (q q' : Bool), endL q (c :: s.data.toList.drop (i + 1)) = 1 + endL q' (s.data.toList.drop (i + 1)) → some ((i + 1 + endL q' (s.data.toList.drop (i + 1)) : Nat) : Int) = some ((i + endL q (c :: s.data.toList.drop (i + 1)) : Nat) : Int) := by
        intro q q' h
        rw [h]
        congr 2
        omega
      by_cases h1 : c = 34
      · rw [if_pos (e34.2 h1), n1 _ (by omega)]
        refine hstep _ _ ?_
        subst h1
        cases s.data.toList.drop (i + 1) <;> simp [endL]
      · rw [if_neg (fun h => h1 (e34.1 h))]
        cases q with
        | true =>
          rw [if_pos rfl]
          obtain ⟨k, rfl⟩ : ∃ j, k = j + 1 := ⟨k - 1, by omega⟩
          simp only [sign_end.j1]
          by_cases h2 : c = 92
          · have hb : (((c.toNat : Int)) == 92) = true := beq_iff_eq.2 (e92.2 h2)
            rw [hb, if_pos rfl, w64n (x := (i : Int) + 1) (by omega) (by omega), w64n (by omega) (by omega)]
            rcases n2 with rfl | ⟨hd0, n2⟩
            · have := end_past s true (i + 2) (by omega) k (by omega)
              rw [show ((i + 2 : Nat) : Int) = (i : Int) + 1 + 1 by omega] at this
              rw [this, List.drop_of_length_le (by omega)]
              subst h2
              have e1 : endL true [(92 : UInt8)] = 1 := by decide
              rw [e1]
              exact congrArg some (by omega)
            · rw [n2 _ (by omega)]
              subst h2
              cases hd : s.data.toList.drop (i + 1) with
              | nil =>
                have := congrArg List.length hd
                rw [List.length_drop] at this
                simp only [List.length_nil] at this
                omega
              | cons x l =>
                have e2 : s.data.toList.drop (i + 2) = l := by
                  have := congrArg (List.drop 1) hd
                  rw [List.drop_drop] at this
                  simpa using this
                rw [e2]
                have e1 : endL true ((92 : UInt8) :: x :: l) = 2 + endL true l := by simp [endL]
                rw [e1]
                exact congrArg some (by omega)
          · have hb : (((c.toNat : Int)) == 92) = false := beq_eq_false_iff_ne.2 (fun h => h2 (e92.1 h))
            rw [hb, if_neg (by simp), if_pos trivial, w64n (by omega) (by omega), n1 _ (by omega)]
            refine hstep _ _ ?_
            cases s.data.toList.drop (i + 1) <;> simp [endL, h1, h2]
        | false =>
          rw [if_neg (by simp)]
          obtain ⟨k, rfl⟩ : ∃ j, k = j + 1 := ⟨k - 1, by omega⟩
          simp only [sign_end.j1]
          rw [if_neg (by simp), if_neg (by simp), if_pos (by omega), if_pos (by omega), hbt]
          by_cases h3 : c = 44
          · rw [if_pos (e44.2 h3)]
            subst h3
            cases s.data.toList.drop (i + 1) <;> simp [endL]
          · rw [if_neg (fun h => h3 (e44.1 h)), w64n (by omega) (by omega), n1 _ (by omega)]
            refine hstep _ _ ?_
            cases s.data.toList.drop (i + 1) <;> simp [endL, h1, h3]

def toB (l : List UInt8) : ByteArray := ⟨l.toArray⟩
theorem toB_list (l : List UInt8) : (toB l).data.toList = l := by simp [toB]
theorem of_list (s : ByteArray) : toB s.data.toList = s := by cases s; simp [toB]
theorem size_l (s : ByteArray) : s.size = s.data.toList.length := by simp
theorem ext_l (s : ByteArray) (a b : Nat) : (s.extract a b).data.toList = (s.data.toList.drop a).take (b - a) := by
  rw [ByteArray.data_extract, Array.toList_extract]
def trimL (l : List UInt8) : List UInt8 := Lib.trimS l [32, 9]
theorem dropWhile_len {α : Type} (p : α → Bool) (l : List α) : (l.dropWhile p).length ≤ l.length := (List.dropWhile_sublist p).length_le
theorem trimL_len (l : List UInt8) : (trimL l).length ≤ l.length := by
  unfold trimL Lib.trimS Lib.trimLeftS Lib.trimRightS
  refine Nat.le_trans (dropWhile_len _ _) ?_
  rw [List.length_reverse]
  refine Nat.le_trans (dropWhile_len _ _) ?_
  rw [List.length_reverse]
  exact Nat.le_refl _
theorem trim_eval (s : ByteArray) (hs : s.size ≤ 9223372036854775807) : sign_Trim.f s = some (toB (trimL s.data.toList)) := by
  unfold sign_Trim.f strings_Trim.f
  rw [if_pos ⟨hs, by decide, by decide⟩]
  rfl
def listL : Nat → List UInt8 → List (List UInt8)
  | 0, _ => []
  | k + 1, l => if l = [] then [] else (if trimL (l.take (endL false l)) = [] then [] else [trimL (l.take (endL false l))]) ++ listL k (l.drop (endL false l + 1))
theorem list_l0 : ∀ (n : Nat) (s : ByteArray) (acc : List ByteArray) (k : Nat), s.size ≤ n → n ≤ 1000000000 → acc.length + s.size ≤ 1000000000 → 3 * n + 10 < k →
    sign_List.l0 k s acc = some (acc ++ (listL (n + 1) s.data.toList).map toB) := by
  intro n
  induction n with
  | zero =>
    intro s acc k h0 h1 h2 hk
    obtain ⟨k, rfl⟩ : ∃ j, k = j + 1 := ⟨k - 1, by omega⟩
    have hnil : s.data.toList = [] := List.eq_nil_of_length_eq_zero (by rw [← size_l]; omega)
    simp only [sign_List.l0]
    rw [ByteArray.toList_eq, hnil, if_pos rfl]
    simp [listL]
  | succ n ih =>
    intro s acc k h0 h1 h2 hk
    obtain ⟨k, rfl⟩ : ∃ j, k = j + 1 := ⟨k - 1, by omega⟩
    simp only [sign_List.l0]
    rw [ByteArray.toList_eq]
    by_cases hnil : s.data.toList = []
    · rw [if_pos hnil, hnil]
      simp [listL]
    · rw [if_neg hnil]
      have hpos : 0 < s.size := by
        rw [size_l]
        exact List.length_pos_iff.2 hnil
      have he : sign_end.f k s = some ((endL false s.data.toList : Nat) : Int) := by
        unfold sign_end.f
        have := end_l0 s (by omega) s.size 0 k false (by omega) (by omega)
        rw [List.drop_zero, Nat.zero_add] at this
        exact this
      have hle := endL_le s.data.toList.length s.data.toList false (Nat.le_refl _)
      rw [← size_l] at hle
      rw [he]
      simp only [Option.bind_some]
      rw [listL, if_neg hnil]
      generalize hE : endL false s.data.toList = E at *
      rw [if_pos (by omega), if_pos (by omega), trim_eval _ (by rw [ByteArray.size_extract]; omega)]
      simp only [Option.bind_some]
      rw [ByteArray.toList_eq, toB_list, ext_l, Int.toNat_natCast, List.drop_zero, Nat.sub_zero]
      have hmn : mn (wrap64 ((E : Int) + 1)) (s.size : Int) = ((min (E + 1) s.size : Nat) : Int) := by
        rw [w64n (by omega) (by omega)]
        unfold mn
        split <;> omega
      rw [hmn, Int.toNat_natCast]
      have hsz : (s.extract (min (E + 1) s.size) s.size).size ≤ n := by rw [ByteArray.size_extract]; omega
      have hdl : (s.extract (min (E + 1) s.size) s.size).data.toList = s.data.toList.drop (E + 1) := by
        rw [ext_l]
        have hz := size_l s
        by_cases hc : E + 1 ≤ s.size
        · rw [Nat.min_eq_left hc]
          exact List.take_of_length_le (by rw [List.length_drop]; omega)
        · rw [List.drop_of_length_le (l := s.data.toList) (i := E + 1) (by omega), List.drop_of_length_le (by omega)]
          exact List.take_nil
      have hsz2 : (s.extract (min (E + 1) s.size) s.size).size ≤ s.size - 1 := by rw [ByteArray.size_extract]; omega
      by_cases ht : trimL (s.data.toList.take E) = []
      · rw [if_pos ht, if_pos ht, if_pos (by omega), if_pos (by omega), List.nil_append]
        rw [ih _ acc k hsz (by omega) (by omega) (by omega), hdl]
      · rw [if_neg ht, if_neg ht, if_pos (by omega), if_pos (by omega), if_pos (by omega)]
        rw [ih _ (acc ++ [toB (trimL (s.data.toList.take E))]) k hsz (by omega) (by simp; omega) (by omega), hdl]
        simp
theorem list_eval (s : ByteArray) (hs : s.size ≤ 1000000) (k : Nat) (hk : 3000100 < k) : sign_List.f k s = some ((listL (s.size + 1) s.data.toList).map toB) := by
  unfold sign_List.f
  have := list_l0 s.size s [] k (Nat.le_refl _) (by omega) (by simp; omega) (by omega)
  simpa using this
theorem listL_len : ∀ (n : Nat) (l : List UInt8), (listL n l).length ≤ n ∧ ∀ x ∈ listL n l, x.length ≤ l.length := by
  intro n
  induction n with
  | zero => intro l; simp [listL]
  | succ n ih =>
    intro l
    rw [listL]
    by_cases h : l = []
    · rw [if_pos h]; simp
    · rw [if_neg h]
      obtain ⟨i1, i2⟩ := ih (l.drop (endL false l + 1))
      have hd : (l.drop (endL false l + 1)).length ≤ l.length := by rw [List.length_drop]; omega
      by_cases ht : trimL (l.take (endL false l)) = []
      · rw [if_pos ht, List.nil_append]
        exact ⟨by omega, fun x hx => Nat.le_trans (i2 x hx) hd⟩
      · rw [if_neg ht]
        refine ⟨by simp; omega, fun x hx => ?_⟩
        rcases List.mem_append.1 hx with hx | hx
        · obtain rfl := List.mem_singleton.1 hx
          refine Nat.le_trans (trimL_len _) ?_
          rw [List.length_take]
          omega
        · exact Nat.le_trans (i2 x hx) hd
def elemsB (n : ByteArray) (l : List S49) : List ByteArray := (listL ((getB n l).size + 1) (getB n l).data.toList).map toB
theorem elems_eval (n : ByteArray) (l : List S49) (hn : n.size ≤ 1000) (h : SmallF l) (k : Nat) (hk : 3000100 < k) : field_List_Elements.f k l n = some (elemsB n l) := by
  unfold field_List_Elements.f
  have g : field_List_Get.f k l n = some (getB n l, decide (0 < (allV n l).length)) := get_eval n l (by omega) h.2 (by have := h.1; omega) k (by have := h.1; omega)
  rw [g]
  simp only [Option.bind_some]
  have := getB_size n l h
  rw [list_eval _ (by omega) k hk]
  rfl
theorem elems_ok (n : ByteArray) (l : List S49) (h : SmallF l) : (elemsB n l).length ≤ 900000 ∧ ∀ x ∈ elemsB n l, x.size ≤ 640000 := by
  have hg := getB_size n l h
  obtain ⟨i1, i2⟩ := listL_len ((getB n l).size + 1) (getB n l).data.toList
  unfold elemsB
  refine ⟨by rw [List.length_map]; omega, fun x hx => ?_⟩
  obtain ⟨y, hy, rfl⟩ := List.mem_map.1 hx
  have := i2 y hy
  rw [← size_l] at this
  rw [size_l, toB_list]
  omega

/-! Small letters of small letters -/
theorem lowU_idem (c : UInt8) : lowU (lowU c) = lowU c := by
  unfold lowU
  by_cases h : 65 ≤ c.toNat ∧ c.toNat ≤ 90
  · rw [if_pos h]
    have e : (UInt8.ofNat (c.toNat + 32)).toNat = c.toNat + 32 := by simp; omega
    rw [if_neg (by rw [e]; omega)]
  · rw [if_neg h, if_neg h]
theorem lowL_idem (l : List UInt8) : lowL (lowL l) = lowL l := by
  unfold lowL
  rw [List.map_map]
  exact List.map_congr_left fun c _ => lowU_idem c
theorem lowB_size (s : ByteArray) : (lowB s).size = s.size := by
  rw [size_l, size_l, lowB_list]
  simp [lowL]
theorem sameB_low (a b : ByteArray) : sameB (lowB a) b = sameB a b := by
  unfold sameB
  rw [lowB_list, lowL_idem]
theorem sameB_low2 (a b : ByteArray) : sameB a (lowB b) = sameB a b := by
  unfold sameB
  rw [lowB_list, lowL_idem]

/-! ## Strip -/
theorem isOf_append (A B : List ByteArray) (f : S49) : isOf (A ++ B) f = (isOf A f || isOf B f) := by unfold isOf; rw [List.any_append]
theorem isOf_low (n : ByteArray) : isOf [lowB n] = isOf [n] := by
  funext o
  unfold isOf
  simp only [List.any_cons, List.any_nil, Bool.or_false]
  exact sameB_low n o.f0
theorem isOf_map_low (ns : List ByteArray) (f : S49) : isOf (ns.map lowB) f = isOf ns f := by
  unfold isOf
  rw [List.any_map]
  congr 1
  funext n
  exact sameB_low n f.f0
theorem wout_congr {A B : List ByteArray} (h : ∀ f, isOf A f = isOf B f) (l : List S49) : wout A l = wout B l := by
  unfold wout
  apply List.filter_congr
  intro x _
  rw [h]
theorem wout_len (ns : List ByteArray) (l : List S49) : (wout ns l).length ≤ l.length := List.length_filter_le _ _
theorem wout_mem {ns : List ByteArray} {l : List S49} {x : S49} (h : x ∈ wout ns l) : x ∈ l := (List.mem_filter.1 h).1
theorem wout_not {ns : List ByteArray} {l : List S49} {x : S49} (h : x ∈ wout ns l) : isOf ns x = false := by
  have := (List.mem_filter.1 h).2
  simpa using this
theorem wout_all {ns : List ByteArray} {l : List S49} (h : ∀ x ∈ l, isOf ns x = false) : wout ns l = l := List.filter_eq_self.2 fun x hx => by rw [h x hx]; rfl
theorem wout_wout (A B : List ByteArray) (l : List S49) : wout B (wout A l) = wout (A ++ B) l := by
  unfold wout
  rw [List.filter_filter]
  apply List.filter_congr
  intro x _
  rw [isOf_append, Bool.not_or, Bool.and_comm]
theorem SmallF_wout {l : List S49} (h : SmallF l) (ns : List ByteArray) : SmallF (wout ns l) := ⟨by have := wout_len ns l; have := h.1; omega, fun f hf => h.2 f (wout_mem hf)⟩

/-! ## Texts of elements, in parts -/
theorem endF_cons {c : UInt8} (l : List UInt8) (h1 : c ≠ 34) (h2 : c ≠ 44) : endL false (c :: l) = 1 + endL false l := by
  cases l with
  | nil => simp [endL, h1, h2]
  | cons d l => simp [endL, h1, h2]
theorem endF_comma (l : List UInt8) : endL false (44 :: l) = 0 := by cases l <;> simp [endL]
theorem endF_quote (l : List UInt8) : endL false (34 :: l) = 1 + endL true l := by cases l <;> simp [endL]
theorem endT_quote (l : List UInt8) : endL true (34 :: l) = 1 + endL false l := by cases l <;> simp [endL]
theorem endT_cons {c : UInt8} (l : List UInt8) (h1 : c ≠ 34) (h2 : c ≠ 92) : endL true (c :: l) = 1 + endL true l := by
  cases l with
  | nil => simp [endL, h1, h2]
  | cons d l => simp [endL, h1, h2]
theorem endF_app : ∀ (a r : List UInt8), (∀ c ∈ a, c ≠ 34 ∧ c ≠ 44) → endL false (a ++ r) = a.length + endL false r := by
  intro a
  induction a with
  | nil => intro r _; simp
  | cons c a ih =>
    intro r h
    obtain ⟨h1, h2⟩ := h c (by simp)
    rw [List.cons_append, endF_cons _ h1 h2, ih r (fun x hx => h x (by simp [hx])), List.length_cons]
    omega
theorem endT_app : ∀ (a r : List UInt8), (∀ c ∈ a, c ≠ 34 ∧ c ≠ 92) → endL true (a ++ r) = a.length + endL true r := by
  intro a
  induction a with
  | nil => intro r _; simp
  | cons c a ih =>
    intro r h
    obtain ⟨h1, h2⟩ := h c (by simp)
    rw [List.cons_append, endT_cons _ h1 h2, ih r (fun x hx => h x (by simp [hx])), List.length_cons]
    omega
def keepL (l : List UInt8) : List (List UInt8) := if trimL l = [] then [] else [trimL l]
theorem listL_nil (k : Nat) : listL k [] = [] := by cases k <;> simp [listL]
theorem trimL_nil : trimL [] = [] := rfl
theorem listL_comma (k : Nat) (a r : List UInt8) (h : endL false (a ++ 44 :: r) = a.length) : listL (k + 1) (a ++ 44 :: r) = keepL a ++ listL k r := by
  rw [listL, if_neg (by simp), h]
  have e1 : (a ++ 44 :: r).take a.length = a := by simp
  have e2 : (a ++ 44 :: r).drop (a.length + 1) = r := by simp
  rw [e1, e2]
  rfl
theorem endF_plain (a r : List UInt8) (h : ∀ c ∈ a, c ≠ 34 ∧ c ≠ 44) : endL false (a ++ 44 :: r) = a.length := by rw [endF_app a _ h, endF_comma]; rfl
theorem listL_last (k : Nat) (a : List UInt8) (h : endL false a = a.length) : listL (k + 1) a = keepL a := by
  rw [listL]
  by_cases h0 : a = []
  · rw [if_pos h0, h0]; simp [keepL, trimL_nil]
  · rw [if_neg h0, h, List.take_length, List.drop_of_length_le (by omega), listL_nil, List.append_nil]
    rfl
theorem trimL_at (b l m m' : List UInt8) (c d : UInt8) (hb : ∀ x ∈ b, [32, 9].contains x = true) (h1 : l = c :: m) (h2 : l = m' ++ [d]) (hc : [32, 9].contains c = false) (hd : [32, 9].contains d = false) : trimL (b ++ l) = l := by
  unfold trimL Lib.trimS Lib.trimRightS Lib.trimLeftS
  have e1 : (b ++ l).reverse = d :: (b ++ m').reverse := by rw [h2]; simp
  rw [e1, List.dropWhile_cons_of_neg (by simpa using hd)]
  have e2 : (d :: (b ++ m').reverse).reverse = b ++ l := by rw [← e1, List.reverse_reverse]
  rw [e2, List.dropWhile_append_of_pos hb, h1, List.dropWhile_cons_of_neg (by simpa using hc)]
theorem keepL_at (b l m m' : List UInt8) (c d : UInt8) (hb : ∀ x ∈ b, [32, 9].contains x = true) (h1 : l = c :: m) (h2 : l = m' ++ [d]) (hc : [32, 9].contains c = false) (hd : [32, 9].contains d = false) : keepL (b ++ l) = [l] := by
  unfold keepL
  rw [trimL_at b l m m' c d hb h1 h2 hc hd, if_neg (by rw [h1]; simp)]

/-! ## Days, months and years, as numbers -/
theorem w64 {x : Int} (h0 : -9223372036854775808 ≤ x) (h1 : x ≤ 9223372036854775807) : wrap64 x = x := by unfold wrap64; omega
theorem tdiv_pos {a b : Int} (h : 0 ≤ a) : Int.tdiv a b = a / b := Int.tdiv_eq_ediv_of_nonneg h
theorem tmod_pos {a b : Int} (h : 0 ≤ a) : Int.tmod a b = a % b := Int.tmod_eq_emod_of_nonneg h
theorem tmod_zero (a b : Int) : Int.tmod a b = 0 ↔ a % b = 0 := by rw [← Int.dvd_iff_tmod_eq_zero, ← Int.dvd_iff_emod_eq_zero]
def leapP (y : Int) : Prop := (y % 4 = 0 ∧ y % 100 ≠ 0) ∨ y % 400 = 0
instance (y : Int) : Decidable (leapP y) := by unfold leapP; infer_instance
def lp (y : Int) : Int := if leapP y then 1 else 0
def mlen (y m : Int) : Int := if m = 2 then 28 + lp y else if m = 4 ∨ m = 6 ∨ m = 9 ∨ m = 11 then 30 else 31
def daysI (y m : Int) : Int := if y < 1970 ∨ 9999 < y ∨ m < 1 ∨ 12 < m then 0 else mlen y m
def ybef (y : Int) : Int := (y - 1) * 365 + (y - 1) / 4 - (y - 1) / 100 + (y - 1) / 400 - 719162
def mbef (y m : Int) : Int :=
  if m = 1 then 0 else if m = 2 then 31 else (if m = 3 then 59 else if m = 4 then 90 else if m = 5 then 120 else if m = 6 then 151 else if m = 7 then 181 else if m = 8 then 212 else if m = 9 then 243 else if m = 10 then 273 else if m = 11 then 304 else if m = 12 then 334 else 365) + lp y
theorem lp_01 (y : Int) : lp y = 0 ∨ lp y = 1 := by unfold lp; split <;> simp
theorem ybef_succ (y : Int) : ybef (y + 1) = ybef y + 365 + lp y := by
  unfold ybef lp
  by_cases h : leapP y
  · rw [if_pos h]
    unfold leapP at h
    omega
  · rw [if_neg h]
    unfold leapP at h
    omega
theorem mbef_succ (y m : Int) (h1 : 1 ≤ m) (h2 : m ≤ 12) : mbef y (m + 1) = mbef y m + mlen y m := by
  have hm : m = 1 ∨ m = 2 ∨ m = 3 ∨ m = 4 ∨ m = 5 ∨ m = 6 ∨ m = 7 ∨ m = 8 ∨ m = 9 ∨ m = 10 ∨ m = 11 ∨ m = 12 := by omega
  have := lp_01 y
  rcases hm with rfl | rfl | rfl | rfl | rfl | rfl | rfl | rfl | rfl | rfl | rfl | rfl <;> simp [mbef, mlen] <;> omega
theorem mbef_13 (y : Int) : mbef y 13 = 365 + lp y := by simp [mbef]
theorem mbef_1 (y : Int) : mbef y 1 = 0 := by simp [mbef]
theorem mlen_bd (y m : Int) : 28 ≤ mlen y m ∧ mlen y m ≤ 31 := by
  have := lp_01 y
  unfold mlen
  split
  · omega
  · split <;> omega
theorem mbef_bd (y m : Int) (h1 : 1 ≤ m) (h2 : m ≤ 13) : 0 ≤ mbef y m ∧ mbef y m ≤ 366 := by
  have hm : m = 1 ∨ m = 2 ∨ m = 3 ∨ m = 4 ∨ m = 5 ∨ m = 6 ∨ m = 7 ∨ m = 8 ∨ m = 9 ∨ m = 10 ∨ m = 11 ∨ m = 12 ∨ m = 13 := by omega
  have := lp_01 y
  rcases hm with rfl | rfl | rfl | rfl | rfl | rfl | rfl | rfl | rfl | rfl | rfl | rfl | rfl <;> simp [mbef] <;> omega
theorem ybef_mono {a b : Int} (h : a ≤ b) : ybef a ≤ ybef b := by unfold ybef; omega
theorem mbef_mono (y : Int) {a b : Int} (h1 : 1 ≤ a) (h : a ≤ b) (h2 : b ≤ 13) : mbef y a ≤ mbef y b := by
  have ha : a = 1 ∨ a = 2 ∨ a = 3 ∨ a = 4 ∨ a = 5 ∨ a = 6 ∨ a = 7 ∨ a = 8 ∨ a = 9 ∨ a = 10 ∨ a = 11 ∨ a = 12 ∨ a = 13 := by omega
  have hb : b = 1 ∨ b = 2 ∨ b = 3 ∨ b = 4 ∨ b = 5 ∨ b = 6 ∨ b = 7 ∨ b = 8 ∨ b = 9 ∨ b = 10 ∨ b = 11 ∨ b = 12 ∨ b = 13 := by omega
  have := lp_01 y
  rcases ha with rfl | rfl | rfl | rfl | rfl | rfl | rfl | rfl | rfl | rfl | rfl | rfl | rfl <;> rcases hb with rfl | rfl | rfl | rfl | rfl | rfl | rfl | rfl | rfl | rfl | rfl | rfl | rfl <;> first | omega | (simp [mbef] <;> omega)
/-- The time t is the day d of the month m of the year y, r seconds of it having passed. -/
structure IsDate (t y m d r : Int) : Prop where
  y0 : 1970 ≤ y
  y1 : y ≤ 9999
  m0 : 1 ≤ m
  m1 : m ≤ 12
  d0 : 1 ≤ d
  d1 : d ≤ mlen y m
  r0 : 0 ≤ r
  r1 : r < 86400
  eq : t = (ybef y + mbef y m + d - 1) * 86400 + r
theorem IsDate.range {t y m d r : Int} (h : IsDate t y m d r) : 0 ≤ t ∧ t ≤ 253402300799 := by
  have h1 := mbef_bd y m h.m0 (by have := h.m1; omega)
  have h2 := mbef_succ y m h.m0 h.m1
  have h3 := mbef_mono y (a := m + 1) (b := 13) (by have := h.m0; omega) (by have := h.m1; omega) (by omega)
  have h4 := ybef_succ y
  have h5 := ybef_mono (a := 1970) (b := y) h.y0
  have h6 := ybef_mono (a := y + 1) (b := 10000) (by have := h.y1; omega)
  have h7 : ybef 1970 = 0 := by decide
  have h8 : ybef 10000 = 2932897 := by decide
  have h9 := mbef_13 y
  have := h.d0; have := h.d1; have := h.r0; have := h.r1; have := h.eq
  omega
theorem IsDate.unique {t y m d r y' m' d' r' : Int} (h : IsDate t y m d r) (h' : IsDate t y' m' d' r') : y = y' ∧ m = m' ∧ d = d' ∧ r = r' := by
  have key : ∀ {y m d r}, IsDate t y m d r → ybef y ≤ t / 86400 ∧ t / 86400 < ybef (y + 1) ∧ mbef y m ≤ t / 86400 - ybef y ∧ t / 86400 - ybef y < mbef y (m + 1) ∧ d = t / 86400 - ybef y - mbef y m + 1 ∧ r = t % 86400 := by
    intro y m d r h
    have h1 := mbef_bd y m h.m0 (by have := h.m1; omega)
    have h2 := mbef_succ y m h.m0 h.m1
    have h3 := mbef_mono y (a := m + 1) (b := 13) (by have := h.m0; omega) (by have := h.m1; omega) (by omega)
    have h4 := ybef_succ y
    have h9 := mbef_13 y
    have := h.d0; have := h.d1; have := h.r0; have := h.r1; have := h.eq
    omega
  obtain ⟨a1, a2, a3, a4, a5, a6⟩ := key h
  obtain ⟨b1, b2, b3, b4, b5, b6⟩ := key h'
  have hy : y = y' := by
    rcases Int.lt_trichotomy y y' with hl | he | hg
    · have := ybef_mono (a := y + 1) (b := y') (by omega); omega
    · exact he
    · have := ybef_mono (a := y' + 1) (b := y) (by omega); omega
  subst hy
  have hm : m = m' := by
    rcases Int.lt_trichotomy m m' with hl | he | hg
    · have := mbef_mono y (a := m + 1) (b := m') (by have := h.m0; omega) (by omega) (by have := h'.m1; omega); omega
    · exact he
    · have := mbef_mono y (a := m' + 1) (b := m) (by have := h'.m0; omega) (by omega) (by have := h.m1; omega); omega
  subst hm
  omega

/-! ## What the printed functions come to -/
theorem leap_eval (y : Int) : date_leap.f y = some (decide (leapP y)) := by
  have h4 : Int.tmod y 4 = 0 ↔ y % 4 = 0 := tmod_zero y 4
  have h100 : Int.tmod y 100 = 0 ↔ y % 100 = 0 := tmod_zero y 100
  have h400 : Int.tmod y 400 = 0 ↔ y % 400 = 0 := tmod_zero y 400
  unfold date_leap.f leapP
  by_cases a : y % 4 = 0
  · rw [if_pos (h4.2 a)]
    by_cases b : y % 100 = 0
    · rw [if_pos (h100.2 b)]
      by_cases c : y % 400 = 0
      · simp [c, h400.2 c]
      · have : ¬ Int.tmod y 400 = 0 := fun h => c (h400.1 h)
        simp [b, c, this]
    · rw [if_neg (fun h => b (h100.1 h))]
      simp [a, b]
  · rw [if_neg (fun h => a (h4.1 h))]
    have c : ¬ y % 400 = 0 := by omega
    have : ¬ Int.tmod y 400 = 0 := fun h => c (h400.1 h)
    simp [a, c, this]
theorem days_eval (k : Nat) (hk : 3 ≤ k) (y m : Int) : date_Days.f k y m = some (daysI y m) := by
  obtain ⟨k, rfl⟩ : ∃ j, k = j + 1 + 1 := ⟨k - 2, by omega⟩
  unfold date_Days.f daysI
  have j0t : date_Days.j0 (k + 1 + 1) y m true = some 0 := by simp [date_Days.j0]
  by_cases a : y < 1970
  · rw [if_pos a, if_pos (.inl a), j0t]
  · rw [if_neg a]
    by_cases b : y > 9999
    · rw [if_pos b, if_pos (by omega), j0t]
    · rw [if_neg b]
      by_cases c : m < 1
      · rw [if_pos c, if_pos (by omega), j0t]
      · rw [if_neg c]
        by_cases d : m > 12
        · rw [if_pos (by omega), decide_eq_true d, j0t]
        · rw [if_neg (by omega), decide_eq_false d]
          simp only [date_Days.j0]
          rw [if_neg (by simp)]
          unfold mlen lp
          by_cases e : m = 2
          · rw [if_pos e, leap_eval]
            simp only [Option.bind_some, date_Days.j1]
            by_cases f : leapP y
            · simp [e, f]
            · simp [e, f]
          · rw [if_neg e]
            simp only [date_Days.j1]
            rw [if_neg (by simp), if_neg e, if_neg e]
            by_cases f4 : m = 4
            · simp [f4]
            · by_cases f6 : m = 6
              · simp [f6]
              · by_cases f9 : m = 9
                · simp [f9]
                · by_cases f11 : m = 11
                  · simp [f11]
                  · simp [f4, f6, f9, f11]
theorem before_eval (y : Int) (h0 : 1 ≤ y) (h1 : y ≤ 20000) : date_before.f y = some (ybef y) := by
  unfold date_before.f ybef
  have e1 : wrap64 (y - 1) = y - 1 := w64 (by omega) (by omega)
  rw [e1, tdiv_pos (by omega), tdiv_pos (by omega), tdiv_pos (by omega)]
  rw [w64 (x := (y - 1) * 365) (by omega) (by omega), w64 (x := (y - 1) / 4) (by omega) (by omega), w64 (x := (y - 1) / 100) (by omega) (by omega), w64 (x := (y - 1) / 400) (by omega) (by omega), w64 (x := (y - 1) * 365 + (y - 1) / 4) (by omega) (by omega), w64 (x := (y - 1) * 365 + (y - 1) / 4 - (y - 1) / 100) (by omega) (by omega), w64 (x := (y - 1) * 365 + (y - 1) / 4 - (y - 1) / 100 + (y - 1) / 400) (by omega) (by omega), w64 (by omega) (by omega)]

theorem daysI_in {y m : Int} (h0 : 1970 ≤ y) (h1 : y ≤ 9999) (h2 : 1 ≤ m) (h3 : m ≤ 12) : daysI y m = mlen y m := by
  unfold daysI; rw [if_neg (by omega)]
theorem split_l1 (t y D : Int) (ht0 : 0 ≤ t) (hD : D = t / 86400) (hy0 : 1970 ≤ y) (hy1 : y ≤ 9999) (hl : ybef y ≤ D) (hu : D < ybef (y + 1)) : ∀ (n : Nat) (m : Int) (k : Nat), m + n = 12 → 1 ≤ m → 0 ≤ D - ybef y - mbef y m → n + 10 < k →
    ∃ m' d', date_Split.l1 k t y m (D - ybef y - mbef y m) = some (y, m', d', t % 86400, 0) ∧ IsDate t y m' d' (t % 86400) := by
  intro n
  induction n with
  | zero =>
    intro m k hm h1 hr hk
    obtain rfl : m = 12 := by omega
    obtain ⟨k, rfl⟩ : ∃ j, k = j + 1 := ⟨k - 1, by omega⟩
    have hs := mbef_succ y 12 (by omega) (by omega)
    have h13 := mbef_13 y
    have hys := ybef_succ y
    have hb := mbef_bd y 12 (by omega) (by omega)
    have hlen := mlen_bd y 12
    have e13 : mbef y (12 + 1) = mbef y 13 := rfl
    refine ⟨12, D - ybef y - mbef y 12 + 1, ?_, ⟨hy0, hy1, by omega, by omega, by omega, by omega, by omega, by omega, by omega⟩⟩
    simp only [date_Split.l1]
    rw [days_eval k (by omega)]
    simp only [Option.bind_some]
    rw [daysI_in hy0 hy1 (by omega) (by omega), if_neg (by omega), w64 (by omega) (by omega), tmod_pos ht0]
  | succ n ih =>
    intro m k hm h1 hr hk
    obtain ⟨k, rfl⟩ : ∃ j, k = j + 1 := ⟨k - 1, by omega⟩
    have hs := mbef_succ y m (by omega) (by omega)
    have hys := ybef_succ y
    have hlp := lp_01 y
    have hb := mbef_bd y m (by omega) (by omega)
    have hlen := mlen_bd y m
    simp only [date_Split.l1]
    rw [days_eval k (by omega)]
    simp only [Option.bind_some]
    rw [daysI_in hy0 hy1 (by omega) (by omega)]
    by_cases hc : D - ybef y - mbef y m ≥ mlen y m
    · rw [if_pos hc, w64 (x := m + 1) (by omega) (by omega), w64 (by omega) (by omega)]
      have := ih (m + 1) k (by omega) (by omega) (by omega) (by omega)
      rw [hs] at this
      rw [show D - ybef y - mbef y m - mlen y m = D - ybef y - (mbef y m + mlen y m) from by omega]
      exact this
    · rw [if_neg hc, w64 (by omega) (by omega), tmod_pos ht0]
      exact ⟨m, D - ybef y - mbef y m + 1, rfl, ⟨hy0, hy1, by omega, by omega, by omega, by omega, by omega, by omega, by omega⟩⟩
theorem split_l0 (t D : Int) (ht0 : 0 ≤ t) (ht1 : t ≤ 253402300799) (hD : D = t / 86400) : ∀ (n : Nat) (y : Int) (k : Nat), y + n = 9999 → 1970 ≤ y → ybef y ≤ D → n + 40 < k →
    ∃ y' m' d', date_Split.l0 k t y D = some (y', m', d', t % 86400, 0) ∧ IsDate t y' m' d' (t % 86400) := by
  have hmax : ybef 10000 = 2932897 := by decide
  have h70 : ybef 1970 = 0 := by decide
  have fin : ∀ (y : Int) (k : Nat), 1970 ≤ y → y ≤ 9999 → ybef y ≤ D → D < ybef (y + 1) → 30 < k → ∃ y' m' d', ((date_before.f y).bind fun t103 => (date_Split.l1 k t y 1 (wrap64 (D - t103)))) = some (y', m', d', t % 86400, 0) ∧ IsDate t y' m' d' (t % 86400) := by
    intro y k hy0 hy1 hl hu hk
    rw [before_eval y (by omega) (by omega)]
    simp only [Option.bind_some]
    have hyb := ybef_mono (a := 1970) (b := y) hy0
    have hys := ybef_succ y
    rw [w64 (by omega) (by omega)]
    have := split_l1 t y D ht0 hD hy0 hy1 hl hu 11 1 k (by omega) (by omega) (by rw [mbef_1]; omega) (by omega)
    rw [mbef_1] at this
    simp only [Int.sub_zero] at this
    obtain ⟨m', d', h1, h2⟩ := this
    exact ⟨y, m', d', h1, h2⟩
  intro n
  induction n with
  | zero =>
    intro y k hy h1 hl hk
    obtain rfl : y = 9999 := by omega
    obtain ⟨k, rfl⟩ : ∃ j, k = j + 1 := ⟨k - 1, by omega⟩
    simp only [date_Split.l0]
    rw [w64 (x := (9999 : Int) + 1) (by omega) (by omega), before_eval (9999 + 1) (by omega) (by omega)]
    simp only [Option.bind_some]
    have e : ybef (9999 + 1) = ybef 10000 := rfl
    have hnle : ¬ ybef (9999 + 1) ≤ D := by rw [e, hmax]; omega
    rw [if_neg hnle]
    exact fin 9999 k (by omega) (by omega) hl (Int.not_le.1 hnle) (by omega)
  | succ n ih =>
    intro y k hy h1 hl hk
    obtain ⟨k, rfl⟩ : ∃ j, k = j + 1 := ⟨k - 1, by omega⟩
    simp only [date_Split.l0]
    rw [w64 (x := y + 1) (by omega) (by omega), before_eval (y + 1) (by omega) (by omega)]
    simp only [Option.bind_some]
    by_cases hc : ybef (y + 1) ≤ D
    · rw [if_pos hc]
      exact ih (y + 1) k (by omega) (by omega) hc (by omega)
    · rw [if_neg hc]
      exact fin y k h1 (by omega) hl (by omega) (by omega)
def KD : Nat := 9000
theorem split_eval (t : Int) (ht0 : 0 ≤ t) (ht1 : t ≤ 253402300799) (k : Nat) (hk : KD ≤ k) : ∃ y m d, date_Split.f k t = some (y, m, d, t % 86400, 0) ∧ IsDate t y m d (t % 86400) := by
  unfold KD at hk
  obtain ⟨k, rfl⟩ : ∃ j, k = j + 1 := ⟨k - 1, by omega⟩
  unfold date_Split.f
  rw [if_neg (by omega), decide_eq_false (by omega)]
  simp only [date_Split.j0]
  rw [if_neg (by simp), tdiv_pos ht0, w64 (x := t / 86400) (by omega) (by omega), tdiv_pos (by omega), w64 (x := t / 86400 / 366) (by omega) (by omega), w64 (by omega) (by omega)]
  refine split_l0 t (t / 86400) ht0 ht1 rfl (9999 - (1970 + t / 86400 / 366)).toNat _ k (by omega) (by omega) ?_ (by omega)
  unfold ybef
  omega
theorem split_none (t : Int) (h : t < 0 ∨ 253402300799 < t) (k : Nat) (hk : 1 ≤ k) : date_Split.f k t = some (0, 0, 0, 0, 11) := by
  obtain ⟨k, rfl⟩ : ∃ j, k = j + 1 := ⟨k - 1, by omega⟩
  unfold date_Split.f
  by_cases h0 : t < 0
  · rw [if_pos h0]; simp [date_Split.j0]
  · rw [if_neg h0, decide_eq_true (show t > 253402300799 by omega)]; simp [date_Split.j0]
theorem IsDate.exists (t : Int) (ht0 : 0 ≤ t) (ht1 : t ≤ 253402300799) : ∃ y m d, IsDate t y m d (t % 86400) := by
  obtain ⟨y, m, d, _, h⟩ := split_eval t ht0 ht1 KD (Nat.le_refl _)
  exact ⟨y, m, d, h⟩
theorem split_of {t y m d r : Int} (h : IsDate t y m d r) (k : Nat) (hk : KD ≤ k) : date_Split.f k t = some (y, m, d, r, 0) := by
  obtain ⟨y', m', d', e, h'⟩ := split_eval t h.range.1 h.range.2 k hk
  obtain ⟨rfl, rfl, rfl, rfl⟩ := h.unique h'
  exact e
/-- The text of a date. -/
def dateB (t y m d r : Int) : List UInt8 := partsB (showParts t y m d r)
theorem show_of {t y m d r : Int} (h : IsDate t y m d r) (k : Nat) (hk : KD ≤ k) : date_Show.f k t = some (⟨(dateB t y m d r).toArray⟩, 0) := by
  unfold date_Show.f
  rw [split_of h k hk]
  simp only [Option.bind_some]
  have hr := h.range
  have hm := mlen_bd y m
  rw [if_pos trivial, if_pos ⟨hr, ⟨by have := h.y0; omega, h.y1⟩, ⟨h.m0, h.m1⟩, ⟨by have := h.d0; omega, by have := h.d1; omega⟩, h.r0, by have := h.r1; omega⟩]
  rfl
theorem show_none (t : Int) (h : t < 0 ∨ 253402300799 < t) (k : Nat) (hk : 1 ≤ k) : date_Show.f k t = some (⟨#[]⟩, 11) := by
  unfold date_Show.f
  rw [split_none t h k hk]
  rfl

/-! ## Texts as lists of bytes -/
theorem bt_list (s : ByteArray) (i : Nat) (h : i < s.data.toList.length) : bt s (i : Int) = ((s.data.toList[i]).toNat : Int) := by
  have h' : i < s.size := by simpa using h
  unfold bt
  simp only [Int.toNat_natCast]
  rw [dif_pos h']
  rfl
theorem size_list (s : ByteArray) : s.size = s.data.toList.length := by simp
theorem ext_list (s : ByteArray) (a b : Nat) : (s.extract a b).data.toList = (s.data.toList.drop a).take (b - a) := by
  rw [ByteArray.data_extract, Array.toList_extract]
theorem toList_eq (s : ByteArray) : s.toList = s.data.toList := ByteArray.toList_eq s
theorem mk_list (l : List UInt8) : (⟨l.toArray⟩ : ByteArray).data.toList = l := by simp
theorem bytes_ext {a b : ByteArray} (h : a.data.toList = b.data.toList) : a = b := by
  cases a; cases b
  simp at h
  simpa using h
def digitsL : List UInt8 → Int → Int
  | [], n => n
  | c :: l, n => if c.toNat < 48 ∨ 57 < c.toNat then -1 else digitsL l (wrap64 (wrap64 (10 * n) + (((c.toNat : Int) - 48) % 256)))
theorem digits_l0 (s : ByteArray) (hs : s.size ≤ 1000) : ∀ (d : Nat) (i : Nat) (n : Int) (k : Nat), i + d = s.size → d < k →
    date_digits.l0 k s n (s.size : Int) (i : Int) = some (digitsL (s.data.toList.drop i) n) := by
  intro d
  induction d with
  | zero =>
    intro i n k hi hk
    obtain ⟨k, rfl⟩ : ∃ j, k = j + 1 := ⟨k - 1, by omega⟩
    simp only [date_digits.l0]
    rw [if_neg (by omega), List.drop_of_length_le (by rw [← size_list]; omega)]
    rfl
  | succ d ih =>
    intro i n k hi hk
    obtain ⟨k, rfl⟩ : ∃ j, k = j + 1 := ⟨k - 1, by omega⟩
    have hlt : i < s.data.toList.length := by rw [← size_list]; omega
    simp only [date_digits.l0]
    rw [if_pos (by omega), if_pos (by omega), if_pos (by omega), List.drop_eq_getElem_cons hlt, bt_list s i hlt]
    simp only [digitsL]
    by_cases h1 : (s.data.toList[i]).toNat < 48
    · rw [if_pos (by omega), if_pos (.inl h1)]
    · rw [if_neg (by omega)]
      by_cases h2 : 57 < (s.data.toList[i]).toNat
      · rw [if_pos (by omega), if_pos (.inr h2)]
      · rw [if_neg (by omega), if_neg (by omega)]
        have := ih (i + 1) (wrap64 (wrap64 (10 * n) + (((s.data.toList[i]).toNat : Int) - 48) % 256)) k (by omega) (by omega)
        rw [← this, w64 (x := (i : Int) + 1) (by omega) (by omega)]
        rfl
theorem digits_eval (s : ByteArray) (hs : s.size ≤ 1000) (k : Nat) (hk : KD ≤ k) : date_digits.f k s = some (digitsL s.data.toList 0) := by
  unfold KD at hk
  unfold date_digits.f
  have := digits_l0 s hs s.size 0 0 k (by omega) (by omega)
  simpa using this
/-- A sign of a digit. -/
def dg (x : Int) : UInt8 := (48 + x % 10).toNat.toUInt8
theorem dg_nat (x : Int) : ((dg x).toNat : Int) = 48 + x % 10 := by
  unfold dg
  have h0 : 0 ≤ x % 10 := by omega
  have h1 : x % 10 < 10 := by omega
  generalize x % 10 = z at *
  obtain ⟨n, rfl⟩ := Int.eq_ofNat_of_zero_le h0
  have e : ((48 : Int) + (n : Int)).toNat = 48 + n := by omega
  rw [e]
  simp
  omega
theorem digitsL_dg (x n : Int) (l : List UInt8) (h0 : 0 ≤ n) (h1 : n ≤ 1000000) : digitsL (dg x :: l) n = digitsL l (10 * n + x % 10) := by
  have e := dg_nat x
  have b0 : 0 ≤ x % 10 := by omega
  have b1 : x % 10 < 10 := by omega
  simp only [digitsL]
  rw [if_neg (by omega), w64 (x := 10 * n) (by omega) (by omega), e, show (48 + x % 10 - 48) % 256 = x % 10 by omega, w64 (by omega) (by omega)]
theorem numB2 (v : Int) : numB v 10 = [dg (v / 10), dg v] := by
  rw [numB_step _ _ (by omega), numB_step _ _ (by omega), numB_zero _ _ (by omega)]
  unfold dg
  simp
theorem numB4 (v : Int) : numB v 1000 = [dg (v / 1000), dg (v / 100), dg (v / 10), dg v] := by
  rw [numB_step _ _ (by omega), numB_step _ _ (by omega), numB_step _ _ (by omega), numB_step _ _ (by omega), numB_zero _ _ (by omega)]
  unfold dg
  simp
theorem digits2 (v : Int) (h0 : 0 ≤ v) (h1 : v ≤ 99) : digitsL [dg (v / 10), dg v] 0 = v := by
  rw [digitsL_dg _ _ _ (by omega) (by omega), digitsL_dg _ _ _ (by omega) (by omega)]
  simp only [digitsL]
  omega
theorem digits4 (v : Int) (h0 : 0 ≤ v) (h1 : v ≤ 9999) : digitsL [dg (v / 1000), dg (v / 100), dg (v / 10), dg v] 0 = v := by
  rw [digitsL_dg _ _ _ (by omega) (by omega), digitsL_dg _ _ _ (by omega) (by omega), digitsL_dg _ _ _ (by omega) (by omega), digitsL_dg _ _ _ (by omega) (by omega)]
  simp only [digitsL]
  omega
theorem digitsL_bd : ∀ (l : List UInt8) (n b : Int), 0 ≤ n → n ≤ b → b ≤ 100000 → l.length ≤ 1 → (digitsL l n = -1 ∨ (0 ≤ digitsL l n ∧ digitsL l n ≤ 10 * b + 9)) := by
  intro l n b h0 h1 h2 hl
  match l, hl with
  | [], _ => simp only [digitsL]; omega
  | [c], _ =>
    simp only [digitsL]
    split
    · exact .inl rfl
    · rename_i hc
      rw [w64 (x := 10 * n) (by omega) (by omega), w64 (by omega) (by omega)]
      omega
theorem digitsL_cons (c : UInt8) (l : List UInt8) (n b : Int) (h0 : 0 ≤ n) (h1 : n ≤ b) (h2 : b ≤ 100000) : digitsL (c :: l) n = -1 ∨ ∃ n', 0 ≤ n' ∧ n' ≤ 10 * b + 9 ∧ digitsL (c :: l) n = digitsL l n' := by
  simp only [digitsL]
  split
  · exact .inl rfl
  · rename_i hc
    rw [w64 (x := 10 * n) (by omega) (by omega)]
    refine .inr ⟨_, ?_, ?_, rfl⟩ <;> rw [w64 (by omega) (by omega)] <;> omega
theorem digits2_bd (a b : UInt8) : -1 ≤ digitsL [a, b] 0 ∧ digitsL [a, b] 0 ≤ 99 := by
  rcases digitsL_cons a [b] 0 0 (by omega) (by omega) (by omega) with h | ⟨n, h0, h1, h⟩
  · omega
  · rw [h]
    rcases digitsL_bd [b] n 9 h0 (by omega) (by omega) (by simp) with h | h <;> omega
theorem digits4_bd (a b c d : UInt8) : -1 ≤ digitsL [a, b, c, d] 0 ∧ digitsL [a, b, c, d] 0 ≤ 9999 := by
  rcases digitsL_cons a [b, c, d] 0 0 (by omega) (by omega) (by omega) with h | ⟨n, h0, h1, h⟩
  · omega
  · rw [h]
    rcases digitsL_cons b [c, d] n 9 h0 (by omega) (by omega) with h | ⟨n, h0, h1, h⟩
    · omega
    · rw [h]
      rcases digitsL_cons c [d] n 99 h0 (by omega) (by omega) with h | ⟨n, h0, h1, h⟩
      · omega
      · rw [h]
        rcases digitsL_bd [d] n 999 h0 (by omega) (by omega) (by simp) with h | h <;> omega
/-! ## The text of a date, sign by sign -/
def wdB (q : Int) : List UInt8 := if q = 0 then [84, 104, 117] else if q = 1 then [70, 114, 105] else if q = 2 then [83, 97, 116] else if q = 3 then [83, 117, 110] else if q = 4 then [77, 111, 110] else if q = 5 then [84, 117, 101] else [87, 101, 100]
def moB (m : Int) : List UInt8 := if m = 1 then [74, 97, 110] else if m = 2 then [70, 101, 98] else if m = 3 then [77, 97, 114] else if m = 4 then [65, 112, 114] else if m = 5 then [77, 97, 121] else if m = 6 then [74, 117, 110] else if m = 7 then [74, 117, 108] else if m = 8 then [65, 117, 103] else if m = 9 then [83, 101, 112] else if m = 10 then [79, 99, 116] else if m = 11 then [78, 111, 118] else [68, 101, 99]
theorem wd_ext (q : Int) (h0 : 0 ≤ q) (h1 : q ≤ 6) : (weekB.extract (q * 3).toNat (q * 3 + 3).toNat).data.toList = wdB q := by
  have hq : q = 0 ∨ q = 1 ∨ q = 2 ∨ q = 3 ∨ q = 4 ∨ q = 5 ∨ q = 6 := by omega
  rw [ext_list]
  rcases hq with rfl | rfl | rfl | rfl | rfl | rfl | rfl <;> rfl
theorem mo_ext (m : Int) (h0 : 1 ≤ m) (h1 : m ≤ 12) : (monthB.extract (3 * m - 3).toNat (3 * m - 3 + 3).toNat).data.toList = moB m := by
  have hm : m = 1 ∨ m = 2 ∨ m = 3 ∨ m = 4 ∨ m = 5 ∨ m = 6 ∨ m = 7 ∨ m = 8 ∨ m = 9 ∨ m = 10 ∨ m = 11 ∨ m = 12 := by omega
  rw [ext_list]
  rcases hm with rfl | rfl | rfl | rfl | rfl | rfl | rfl | rfl | rfl | rfl | rfl | rfl <;> rfl
theorem wd_three (q : Int) : ∃ a b c, wdB q = [a, b, c] := by
  unfold wdB
  repeat' first | exact ⟨_, _, _, rfl⟩ | split
theorem three_of {l : List UInt8} (h : l.length = 3) : ∃ a b c, l = [a, b, c] := by
  match l, h with
  | [a, b, c], _ => exact ⟨a, b, c, rfl⟩
theorem mo_three (m : Int) : ∃ a b c, moB m = [a, b, c] := by
  refine three_of ?_
  unfold moB
  repeat (first | rfl | (rw [apply_ite List.length]; split) | split)
theorem mo_index (m : Int) (h0 : 1 ≤ m) (h1 : m ≤ 12) : Lib.index monthB.data.toList (moB m) = 3 * m - 3 := by
  have hm : m = 1 ∨ m = 2 ∨ m = 3 ∨ m = 4 ∨ m = 5 ∨ m = 6 ∨ m = 7 ∨ m = 8 ∨ m = 9 ∨ m = 10 ∨ m = 11 ∨ m = 12 := by omega
  rcases hm with rfl | rfl | rfl | rfl | rfl | rfl | rfl | rfl | rfl | rfl | rfl | rfl <;> decide +kernel
theorem dateB_eq {t y m d r : Int} (h : IsDate t y m d r) : dateB t y m d r =
    wdB (t / 86400 % 7) ++ [44, 32, dg (d / 10), dg d, 32] ++ moB m ++ [32, dg (y / 1000), dg (y / 100), dg (y / 10), dg y, 32, dg (r / 3600 / 10), dg (r / 3600), 58, dg (r / 60 % 60 / 10), dg (r / 60 % 60), 58, dg (r % 60 / 10), dg (r % 60), 32, 71, 77, 84] := by
  have hr := h.range
  unfold dateB partsB showParts
  simp only [List.map_cons, List.map_nil, PPart.bytes, List.flatten_cons, List.flatten_nil, if_true, if_neg (show ¬ (4 : Int) = 2 by decide), numB2, numB4]
  rw [wd_ext _ (by omega) (by omega), mo_ext _ h.m0 h.m1]
  simp
theorem dateB_len {t y m d r : Int} (h : IsDate t y m d r) : (dateB t y m d r).length = 29 := by
  rw [dateB_eq h]
  obtain ⟨a, b, c, e⟩ := wd_three (t / 86400 % 7)
  obtain ⟨a', b', c', e'⟩ := mo_three m
  rw [e, e']
  rfl

/-! ## Reading a date -/
theorem read_l0 (s : ByteArray) (ix y d h mi se : Int) (hix0 : 0 ≤ ix) (hix1 : ix ≤ 35) (hh0 : 0 ≤ h) (hh1 : h ≤ 23) (hm0 : 0 ≤ mi) (hm1 : mi ≤ 59) (hs0 : 0 ≤ se) (hs1 : se ≤ 59)
    (H : IsDate ((ybef y + mbef y (ix / 3 + 1) + d - 1) * 86400 + (h * 3600 + mi * 60 + se)) y (ix / 3 + 1) d (h * 3600 + mi * 60 + se)) : ∀ (n : Nat) (x : Int) (k : Nat), x + n = ix / 3 + 1 → 1 ≤ x → KD + n + 2 ≤ k →
    date_Read.l0 k s ix y h mi se (ybef y + d - 1 + mbef y x) x =
      if dateB ((ybef y + mbef y (ix / 3 + 1) + d - 1) * 86400 + (h * 3600 + mi * 60 + se)) y (ix / 3 + 1) d (h * 3600 + mi * 60 + se) = s.data.toList then some ((ybef y + mbef y (ix / 3 + 1) + d - 1) * 86400 + (h * 3600 + mi * 60 + se), 0) else some (0, 14) := by
  have hr := H.range
  have hyb := ybef_mono (a := 1970) (b := y) H.y0
  have hyt := ybef_mono (a := y) (b := 9999) H.y1
  have h70 : ybef 1970 = 0 := by decide
  have h99 : ybef 9999 = 2932532 := by decide
  have hd1 := (mlen_bd y (ix / 3 + 1)).2
  have := H.d0; have := H.d1
  intro n
  induction n with
  | zero =>
    intro x k hx h1 hk
    obtain ⟨k, rfl⟩ : ∃ j, k = j + 1 := ⟨k - 1, by omega⟩
    obtain rfl : x = ix / 3 + 1 := by omega
    have hb := mbef_bd y (ix / 3 + 1) (by omega) (by omega)
    simp only [date_Read.l0]
    rw [tdiv_pos hix0, w64 (x := ix / 3) (by omega) (by omega), if_neg (by omega)]
    have e1 : wrap64 ((ybef y + d - 1 + mbef y (ix / 3 + 1)) * 86400) = (ybef y + d - 1 + mbef y (ix / 3 + 1)) * 86400 := w64 (by omega) (by omega)
    have e2 : wrap64 (h * 3600) = h * 3600 := w64 (by omega) (by omega)
    have e3 : wrap64 (mi * 60) = mi * 60 := w64 (by omega) (by omega)
    rw [e1, e2, e3]
    have e4 : wrap64 ((ybef y + d - 1 + mbef y (ix / 3 + 1)) * 86400 + h * 3600) = (ybef y + d - 1 + mbef y (ix / 3 + 1)) * 86400 + h * 3600 := w64 (by omega) (by omega)
    rw [e4]
    have e5 : wrap64 ((ybef y + d - 1 + mbef y (ix / 3 + 1)) * 86400 + h * 3600 + mi * 60) = (ybef y + d - 1 + mbef y (ix / 3 + 1)) * 86400 + h * 3600 + mi * 60 := w64 (by omega) (by omega)
    rw [e5]
    have e6 : wrap64 ((ybef y + d - 1 + mbef y (ix / 3 + 1)) * 86400 + h * 3600 + mi * 60 + se) = (ybef y + mbef y (ix / 3 + 1) + d - 1) * 86400 + (h * 3600 + mi * 60 + se) := by rw [w64 (by omega) (by omega)]; omega
    rw [e6, show_of H k (by omega)]
    simp only [Option.bind_some, toList_eq, mk_list]
  | succ n ih =>
    intro x k hx h1 hk
    obtain ⟨k, rfl⟩ : ∃ j, k = j + 1 := ⟨k - 1, by omega⟩
    have hb := mbef_bd y x (by omega) (by omega)
    have hsu := mbef_succ y x (by omega) (by omega)
    have hml := mlen_bd y x
    simp only [date_Read.l0]
    rw [tdiv_pos hix0, w64 (x := ix / 3) (by omega) (by omega), if_pos (by omega), days_eval k (by unfold KD at hk; omega)]
    simp only [Option.bind_some]
    rw [daysI_in H.y0 H.y1 (by omega) (by omega), w64 (x := x + 1) (by omega) (by omega), w64 (by omega) (by omega)]
    have := ih (x + 1) k (by omega) (by omega) (by omega)
    rw [hsu] at this
    rw [show ybef y + d - 1 + mbef y x + mlen y x = ybef y + d - 1 + (mbef y x + mlen y x) from by omega]
    exact this
/-- What stands at the places of a text of 29 bytes. -/
def fIx (s : ByteArray) : Int := Lib.index monthB.data.toList ((s.data.toList.drop 8).take 3)
def fN (s : ByteArray) (a n : Nat) : Int := digitsL ((s.data.toList.drop a).take n) 0
def fBad (s : ByteArray) : Prop := fIx s < 0 ∨ fIx s % 3 ≠ 0 ∨ fN s 5 2 < 1 ∨ daysI (fN s 12 4) (fIx s / 3 + 1) < fN s 5 2 ∨ fN s 17 2 < 0 ∨ 23 < fN s 17 2 ∨ fN s 20 2 < 0 ∨ 59 < fN s 20 2 ∨ fN s 23 2 < 0 ∨ 59 < fN s 23 2
theorem fIx_le (s : ByteArray) : fIx s ≤ 36 := by
  have := Lib.index_le monthB.data.toList ((s.data.toList.drop 8).take 3)
  exact this
theorem read_small (s : ByteArray) (h : s.size ≠ 29) (k : Nat) : date_Read.f k s = some (0, 14) := by
  unfold date_Read.f
  rw [if_neg (by omega)]
theorem read_j0t (s : ByteArray) (a b c d e f : Int) (k : Nat) (hk : 1 ≤ k) : date_Read.j0 k s a b c d e f true = some (0, 14) := by
  obtain ⟨k, rfl⟩ : ∃ j, k = j + 1 := ⟨k - 1, by omega⟩
  simp [date_Read.j0]
theorem read_29 (s : ByteArray) (h : s.size = 29) (k : Nat) (hk : KD ≤ k) :
    (fBad s → date_Read.f k s = some (0, 14)) ∧ (¬ fBad s → date_Read.f k s = date_Read.j0 k s (fIx s) (fN s 12 4) (fN s 5 2) (fN s 17 2) (fN s 20 2) (fN s 23 2) false) := by
  have hk1 : 1 ≤ k := by unfold KD at hk; omega
  have dig : ∀ a b, b ≤ 29 → date_digits.f k (s.extract a b) = some (fN s a (b - a)) := by
    intro a b hb
    rw [digits_eval _ (by rw [ByteArray.size_extract]; omega) k hk, ext_list]
    rfl
  have hidx : strings_Index.f (⟨#[74, 97, 110, 70, 101, 98, 77, 97, 114, 65, 112, 114, 77, 97, 121, 74, 117, 110, 74, 117, 108, 65, 117, 103, 83, 101, 112, 79, 99, 116, 78, 111, 118, 68, 101, 99]⟩ : ByteArray) (s.extract 8 11) = some (fIx s) := by
    unfold strings_Index.f
    rw [if_pos (by decide), ext_list]
    rfl
  have hile := fIx_le s
  unfold date_Read.f
  rw [if_pos (by omega), if_pos (by omega), if_pos (by omega), hidx]
  simp only [Option.bind_some]
  rw [if_pos (by omega), if_pos (by omega), dig 12 16 (by omega)]
  simp only [Option.bind_some]
  rw [if_pos (by omega), if_pos (by omega), dig 5 7 (by omega)]
  simp only [Option.bind_some]
  rw [if_pos (by omega), if_pos (by omega), dig 17 19 (by omega)]
  simp only [Option.bind_some]
  rw [if_pos (by omega), if_pos (by omega), dig 20 22 (by omega)]
  simp only [Option.bind_some]
  rw [if_pos (by omega), if_pos (by omega), dig 23 25 (by omega)]
  simp only [Option.bind_some, Nat.reduceSub]
  unfold fBad
  by_cases c1 : fIx s < 0
  · rw [if_pos c1, read_j0t _ _ _ _ _ _ _ k hk1]
    exact ⟨fun _ => rfl, fun hn => absurd (.inl c1) hn⟩
  · rw [if_neg c1]
    by_cases c2 : fIx s % 3 = 0
    · rw [if_pos ((tmod_zero _ _).2 c2)]
      by_cases c3 : fN s 5 2 < 1
      · rw [if_pos c3, read_j0t _ _ _ _ _ _ _ k hk1]
        exact ⟨fun _ => rfl, fun hn => absurd (.inr (.inr (.inl c3))) hn⟩
      · rw [if_neg c3, tdiv_pos (by omega), w64 (x := fIx s / 3) (by omega) (by omega), w64 (by omega) (by omega), days_eval k (by unfold KD at hk; omega)]
        simp only [Option.bind_some]
        by_cases c4 : fN s 5 2 > daysI (fN s 12 4) (fIx s / 3 + 1)
        · rw [if_pos c4, read_j0t _ _ _ _ _ _ _ k hk1]
          exact ⟨fun _ => rfl, fun hn => absurd (.inr (.inr (.inr (.inl c4)))) hn⟩
        · rw [if_neg c4]
          by_cases c5 : fN s 17 2 < 0
          · rw [if_pos c5, read_j0t _ _ _ _ _ _ _ k hk1]
            exact ⟨fun _ => rfl, fun hn => absurd (.inr (.inr (.inr (.inr (.inl c5))))) hn⟩
          · rw [if_neg c5]
            by_cases c6 : fN s 17 2 > 23
            · rw [if_pos c6, read_j0t _ _ _ _ _ _ _ k hk1]
              exact ⟨fun _ => rfl, fun hn => absurd (.inr (.inr (.inr (.inr (.inr (.inl c6)))))) hn⟩
            · rw [if_neg c6]
              by_cases c7 : fN s 20 2 < 0
              · rw [if_pos c7, read_j0t _ _ _ _ _ _ _ k hk1]
                exact ⟨fun _ => rfl, fun hn => absurd (.inr (.inr (.inr (.inr (.inr (.inr (.inl c7))))))) hn⟩
              · rw [if_neg c7]
                by_cases c8 : fN s 20 2 > 59
                · rw [if_pos c8, read_j0t _ _ _ _ _ _ _ k hk1]
                  exact ⟨fun _ => rfl, fun hn => absurd (.inr (.inr (.inr (.inr (.inr (.inr (.inr (.inl c8)))))))) hn⟩
                · rw [if_neg c8]
                  by_cases c9 : fN s 23 2 < 0
                  · rw [if_pos c9, read_j0t _ _ _ _ _ _ _ k hk1]
                    exact ⟨fun _ => rfl, fun hn => absurd (.inr (.inr (.inr (.inr (.inr (.inr (.inr (.inr (.inl c9))))))))) hn⟩
                  · rw [if_neg c9]
                    by_cases c10 : fN s 23 2 > 59
                    · rw [decide_eq_true c10, read_j0t _ _ _ _ _ _ _ k hk1]
                      exact ⟨fun _ => rfl, fun hn => absurd (.inr (.inr (.inr (.inr (.inr (.inr (.inr (.inr (.inr c10))))))))) hn⟩
                    · rw [decide_eq_false c10]
                      refine ⟨fun hb => ?_, fun _ => rfl⟩
                      omega
    · rw [if_neg (fun h => c2 ((tmod_zero _ _).1 h)), read_j0t _ _ _ _ _ _ _ k hk1]
      exact ⟨fun _ => rfl, fun hn => absurd (.inr (.inl c2)) hn⟩
theorem read_good (s : ByteArray) (h : s.size = 29) (hg : ¬ fBad s) (k : Nat) (hk : KD + 20 ≤ k) :
    ∃ t y m d r, IsDate t y m d r ∧ m = fIx s / 3 + 1 ∧ y = fN s 12 4 ∧ d = fN s 5 2 ∧ r = fN s 17 2 * 3600 + fN s 20 2 * 60 + fN s 23 2 ∧ date_Read.f k s = if dateB t y m d r = s.data.toList then some (t, 0) else some (0, 14) := by
  rw [(read_29 s h k (by omega)).2 hg]
  obtain ⟨k, rfl⟩ : ∃ j, k = j + 1 := ⟨k - 1, by omega⟩
  unfold fBad at hg
  have hdays : fN s 5 2 ≤ daysI (fN s 12 4) (fIx s / 3 + 1) := by omega
  have hin : ¬ (fN s 12 4 < 1970 ∨ 9999 < fN s 12 4 ∨ fIx s / 3 + 1 < 1 ∨ 12 < fIx s / 3 + 1) := by
    intro hn
    unfold daysI at hdays
    rw [if_pos hn] at hdays
    omega
  rw [daysI_in (by omega) (by omega) (by omega) (by omega)] at hdays
  have hml := mlen_bd (fN s 12 4) (fIx s / 3 + 1)
  have H : IsDate ((ybef (fN s 12 4) + mbef (fN s 12 4) (fIx s / 3 + 1) + fN s 5 2 - 1) * 86400 + (fN s 17 2 * 3600 + fN s 20 2 * 60 + fN s 23 2)) (fN s 12 4) (fIx s / 3 + 1) (fN s 5 2) (fN s 17 2 * 3600 + fN s 20 2 * 60 + fN s 23 2) :=
    ⟨by omega, by omega, by omega, by omega, by omega, hdays, by omega, by omega, rfl⟩
  refine ⟨_, _, _, _, _, H, rfl, rfl, rfl, rfl, ?_⟩
  have hyb := ybef_mono (a := 1970) (b := fN s 12 4) H.y0
  have hyt := ybef_mono (a := fN s 12 4) (b := 9999) H.y1
  have h70 : ybef 1970 = 0 := by decide
  have h99 : ybef 9999 = 2932532 := by decide
  simp only [date_Read.j0]
  rw [if_neg (by simp), before_eval _ (by omega) (by omega)]
  simp only [Option.bind_some]
  rw [w64 (x := ybef (fN s 12 4) + fN s 5 2) (by omega) (by omega), w64 (by omega) (by omega)]
  have := read_l0 s (fIx s) (fN s 12 4) (fN s 5 2) (fN s 17 2) (fN s 20 2) (fN s 23 2) (by omega) (by omega) (by omega) (by omega) (by omega) (by omega) (by omega) (by omega) H (fIx s / 3).toNat 1 k (by omega) (by omega) (by omega)
  rw [mbef_1] at this
  simp only [Int.add_zero] at this
  exact this
/-- A date is read as its time. -/
theorem read_date {t y m d r : Int} (h : IsDate t y m d r) (s : ByteArray) (hs : s.data.toList = dateB t y m d r) (k : Nat) (hk : KD + 20 ≤ k) : date_Read.f k s = some (t, 0) := by
  have h29 : s.size = 29 := by rw [size_list, hs, dateB_len h]
  have hr := h.range
  have e := dateB_eq h
  obtain ⟨a1, a2, a3, ea⟩ := wd_three (t / 86400 % 7)
  obtain ⟨b1, b2, b3, eb⟩ := mo_three m
  have hix := mo_index m h.m0 h.m1
  rw [ea, eb] at e
  rw [eb] at hix
  have hd1 := (mlen_bd y m).2
  have hy := h.y0; have hy' := h.y1; have hd := h.d0; have hd' := h.d1; have hr0 := h.r0; have hr1 := h.r1; have hm0 := h.m0; have hm1 := h.m1
  have f1 : fIx s = 3 * m - 3 := by unfold fIx; rw [hs, e]; exact hix
  have f2 : fN s 12 4 = y := by unfold fN; rw [hs, e]; exact digits4 y (by omega) (by omega)
  have f3 : fN s 5 2 = d := by unfold fN; rw [hs, e]; exact digits2 d (by omega) (by omega)
  have f4 : fN s 17 2 = r / 3600 := by unfold fN; rw [hs, e]; exact digits2 (r / 3600) (by omega) (by omega)
  have f5 : fN s 20 2 = r / 60 % 60 := by unfold fN; rw [hs, e]; exact digits2 (r / 60 % 60) (by omega) (by omega)
  have f6 : fN s 23 2 = r % 60 := by unfold fN; rw [hs, e]; exact digits2 (r % 60) (by omega) (by omega)
  have hg : ¬ fBad s := by
    unfold fBad
    rw [f1, f2, f3, f4, f5, f6, show (3 * m - 3) / 3 + 1 = m by omega, daysI_in hy hy' hm0 hm1]
    omega
  obtain ⟨t', y', m', d', r', H', em, ey, ed, er, ef⟩ := read_good s h29 hg k hk
  rw [f1] at em; rw [f2] at ey; rw [f3] at ed; rw [f4, f5, f6] at er
  obtain rfl : m' = m := by omega
  subst ey; subst ed
  obtain rfl : r' = r := by omega
  obtain rfl : t' = t := by rw [H'.eq, h.eq]
  rw [ef, hs, if_pos rfl]
/-- What is read is the date of a time, or refused. -/
theorem read_any (s : ByteArray) (k : Nat) (hk : KD + 20 ≤ k) :
    (date_Read.f k s = some (0, 14) ∧ ∀ t y m d r, IsDate t y m d r → s.data.toList ≠ dateB t y m d r) ∨ ∃ t y m d r, IsDate t y m d r ∧ s.data.toList = dateB t y m d r ∧ date_Read.f k s = some (t, 0) := by
  by_cases hx : ∃ t y m d r, IsDate t y m d r ∧ s.data.toList = dateB t y m d r
  · obtain ⟨t, y, m, d, r, h, e⟩ := hx
    exact .inr ⟨t, y, m, d, r, h, e, read_date h s e k hk⟩
  · refine .inl ⟨?_, fun t y m d r h e => hx ⟨t, y, m, d, r, h, e⟩⟩
    by_cases h29 : s.size = 29
    · by_cases hb : fBad s
      · exact (read_29 s h29 k (by omega)).1 hb
      · obtain ⟨t, y, m, d, r, H, _, _, _, _, ef⟩ := read_good s h29 hb k hk
        rw [ef, if_neg (fun e => hx ⟨t, y, m, d, r, H, e.symm⟩)]
    · exact read_small s h29 k
theorem dateB_inj {t y m d r t' y' m' d' r' : Int} (h : IsDate t y m d r) (h' : IsDate t' y' m' d' r') (e : dateB t y m d r = dateB t' y' m' d' r') : t = t' := by
  have h1 := read_date h ⟨(dateB t y m d r).toArray⟩ (by simp) (KD + 20) (Nat.le_refl _)
  have h2 := read_date h' ⟨(dateB t y m d r).toArray⟩ (by rw [← e]) (KD + 20) (Nat.le_refl _)
  rw [h1] at h2
  simpa using h2

/-! ## A text without commas is one element -/
theorem endL_whole : ∀ (n : Nat) (l : List UInt8) (q : Bool), l.length ≤ n → (∀ c ∈ l, c ≠ 44) → endL q l = l.length := by
  intro n
  induction n with
  | zero =>
    intro l q h _
    obtain rfl := List.eq_nil_of_length_eq_zero (by omega : l.length = 0)
    simp [endL]
  | succ n ih =>
    intro l q h hc
    match l, h, hc with
    | [], _, _ => simp [endL]
    | [c], _, hc =>
      have := hc c (by simp)
      unfold endL
      split
      · rfl
      · split
        · rfl
        · rw [if_neg (fun h => this h.2)]; rfl
    | c :: d :: l, h, hc =>
      simp only [List.length_cons] at h
      have h0 := hc c (by simp)
      have h1 := ih (d :: l) (!q) (by simp; omega) (fun x hx => hc x (List.mem_cons_of_mem _ hx))
      have h2 := ih l q (by omega) (fun x hx => hc x (List.mem_cons_of_mem _ (List.mem_cons_of_mem _ hx)))
      have h3 := ih (d :: l) q (by simp; omega) (fun x hx => hc x (List.mem_cons_of_mem _ hx))
      unfold endL
      simp only [List.length_cons] at *
      split
      · omega
      · split
        · omega
        · rw [if_neg (fun h => h0 h.2)]; omega
theorem dw_none {α : Type} {p : α → Bool} {l : List α} (h : ∀ x ∈ l, p x = false) : l.dropWhile p = l := by
  cases l with
  | nil => rfl
  | cons a l => rw [List.dropWhile_cons_of_neg (by rw [h a (by simp)]; simp)]
theorem trimL_whole (l : List UInt8) (h : ∀ c ∈ l, c ≠ 32 ∧ c ≠ 9) : trimL l = l := by
  have hp : ∀ x ∈ l, ([32, 9] : List UInt8).contains x = false := fun x hx => by
    obtain ⟨h1, h2⟩ := h x hx
    simp [h1, h2]
  unfold trimL Lib.trimS Lib.trimRightS Lib.trimLeftS
  rw [dw_none (l := l.reverse) (fun x hx => hp x (List.mem_reverse.1 hx)), List.reverse_reverse, dw_none hp]
theorem allV_snoc (n : ByteArray) (L : List S49) (f : S49) : allV n (L ++ [f]) = allV n L ++ (if sameB n f.f0 = true then [f.f1] else []) := by
  rw [allV_app]
  congr 1
  unfold allV
  by_cases h : sameB n f.f0 = true
  · rw [if_pos h, List.filter_cons_of_pos (by simpa [isOf] using h)]; rfl
  · rw [if_neg h, List.filter_cons_of_neg (by simpa [isOf] using h)]; rfl
theorem getB_of (n : ByteArray) (L : List S49) (t : ByteArray) (h : allV n L = [t]) : getB n L = t := by
  have e : (getB n L).toList = t.toList := by
    rw [getB_list, h]
    simp [joinB, Lib.join, ByteArray.toList_eq]
  rw [ByteArray.toList_eq, ByteArray.toList_eq] at e
  rw [← of_list (getB n L), e, of_list]
theorem getB_nil (n : ByteArray) (L : List S49) (h : allV n L = []) : getB n L = ⟨#[]⟩ := by
  unfold getB
  rw [h]
  rfl
theorem elemsB_of (n : ByteArray) (L : List S49) (t : ByteArray) (h : allV n L = [t]) (h0 : t ≠ ⟨#[]⟩) (hc : ∀ c ∈ t.data.toList, c ≠ 44 ∧ c ≠ 32 ∧ c ≠ 9) : elemsB n L = [t] := by
  unfold elemsB
  rw [getB_of n L t h, listL_last _ _ (endL_whole _ _ _ (Nat.le_refl _) fun c hx => (hc c hx).1)]
  unfold keepL
  rw [trimL_whole _ (fun c hx => (hc c hx).2)]
  have : t.data.toList ≠ [] := fun e => h0 (by rw [← of_list t, e]; rfl)
  rw [if_neg this]
  simp [of_list]
theorem elemsB_nil (n : ByteArray) (L : List S49) (h : allV n L = []) : elemsB n L = [] := by
  unfold elemsB
  rw [getB_nil n L h]
  rfl
/-- What is left out isn't there. -/
theorem allV_wout (n m : ByteArray) (ns : List ByteArray) (L : List S49) (hm : m ∈ ns) (hs : lowB n = lowB m) : allV n (wout ns L) = [] := by
  unfold allV
  rw [List.map_eq_nil_iff, List.filter_eq_nil_iff]
  intro f hf
  have h1 := wout_not hf
  intro hc
  rw [← isOf_low, hs, isOf_low] at hc
  have hc2 : sameB m f.f0 = true := by simpa [isOf] using hc
  have : isOf ns f = true := List.any_eq_true.2 ⟨m, hm, hc2⟩
  rw [this] at h1
  cases h1
theorem getB_size30 (n : ByteArray) (L : List S49) (h : SmallP L) : (getB n L).size ≤ 9060 := by
  have hle : (allV n L).length ≤ L.length := by
    unfold allV
    rw [List.length_map]
    exact List.length_filter_le _ _
  have := inter_len commaB.data.toList 300 ((allV n L).map (·.data.toList)) (fun x hx => by
    obtain ⟨y, hy, rfl⟩ := List.mem_map.1 hx
    unfold allV at hy
    obtain ⟨f, hf, rfl⟩ := List.mem_map.1 hy
    have := (h.2 f (List.mem_filter.1 hf).1).2
    simpa using this)
  rw [List.length_map] at this
  have h2 : (commaB.data.toList).length = 2 := rfl
  rw [h2] at this
  have h3 : (allV n L).length * (300 + 2) ≤ 30 * 302 := Nat.mul_le_mul_right _ (by have := h.1; omega)
  have h4 : (getB n L).size = (joinB (allV n L) commaB).length := by
    show (joinB (allV n L) commaB).toArray.size = _
    simp
  rw [h4]
  show (List.intercalate _ _).length ≤ _
  omega

/-! ## Dates that are read, asked for -/
def readV (s : ByteArray) : Int × Int := (date_Read.f (KD + 20) s).getD (0, 14)
theorem read_eval (s : ByteArray) (k : Nat) (hk : KD + 20 ≤ k) : date_Read.f k s = some (readV s) := by
  unfold readV
  rcases read_any s (KD + 20) (Nat.le_refl _) with ⟨e, hn⟩ | ⟨t, y, m, d, r, h, hs, e⟩
  · rw [e]
    rcases read_any s k hk with ⟨e', _⟩ | ⟨t, y, m, d, r, h, hs, _⟩
    · exact e'
    · exact absurd hs (hn t y m d r h)
  · rw [e]
    exact read_date h s hs k hk
theorem readV_nil : readV ⟨#[]⟩ = (0, 14) := by
  unfold readV
  rw [read_small _ (by decide)]
  rfl

/-! ## Dates of fields -/
def okD (n : ByteArray) (l : List S49) : Bool := (readV (getB n l)).2 == 0
def etagU : ByteArray := ⟨#[69, 84, 97, 103]⟩
def inmU : ByteArray := ⟨#[73, 102, 45, 78, 111, 110, 101, 45, 77, 97, 116, 99, 104]⟩
def imsU : ByteArray := ⟨#[73, 102, 45, 77, 111, 100, 105, 102, 105, 101, 100, 45, 83, 105, 110, 99, 101]⟩
def lamU : ByteArray := ⟨#[76, 97, 115, 116, 45, 77, 111, 100, 105, 102, 105, 101, 100]⟩
def askN : List ByteArray := [inmU, imsU, ⟨#[73, 102, 45, 77, 97, 116, 99, 104]⟩, ⟨#[73, 102, 45, 85, 110, 109, 111, 100, 105, 102, 105, 101, 100, 45, 83, 105, 110, 99, 101]⟩, ⟨#[73, 102, 45, 82, 97, 110, 103, 101]⟩, ⟨#[82, 97, 110, 103, 101]⟩]
theorem dated_eval (n : ByteArray) (l : List S49) (hn : n.size ≤ 1000) (h : SmallF l) (k : Nat) (hk : KD + 20 ≤ k) : pass_dated.f k l n = some ((readV (getB n l)).1, okD n l) := by
  unfold KD at hk
  have hl := h.1
  have g : field_List_Get.f k l n = some (getB n l, decide (0 < (allV n l).length)) := get_eval n l (by omega) h.2 (by omega) k (by omega)
  unfold pass_dated.f
  rw [g]
  simp only [Option.bind_some]
  rw [read_eval _ k (by unfold KD; omega)]
  rfl
theorem tag_eval (l : List S49) (h : SmallF l) (k : Nat) (hk : 1000 ≤ k) : pass_tag.f k l = some (getB etagU l) := by
  have hl := h.1
  have g : field_List_Get.f k l etagU = some (getB etagU l, decide (0 < (allV etagU l).length)) := get_eval etagU l (by decide) h.2 (by omega) k (by omega)
  have e : pass_tag.f k l = (field_List_Get.f k l etagU).bind fun b => some b.1 := rfl
  rw [e, g]
  rfl

/-! ## What is good still -/
def goodV (A came : List S49) : Bool := if 0 < (allV inmU A).length then (elemsB inmU A).any (goodB (getB etagU came)) else (okD imsU A && (okD lamU came && decide ((readV (getB lamU came)).1 ≤ (readV (getB imsU A)).1)))
theorem good_eval (A came : List S49) (h : SmallF A) (h' : SmallF came) (k : Nat) (hk : 4000100 < k) : pass_Good.f k A came = some (goodV A came) := by
  have hl := h.1
  have g : field_List_Get.f k A inmU = some (getB inmU A, decide (0 < (allV inmU A).length)) := get_eval inmU A (by decide) h.2 (by omega) k (by omega)
  have e : pass_Good.f k A came = ((field_List_Get.f k A inmU).bind fun g => if g.2 = true then ((pass_tag.f k came).bind fun t => (field_List_Elements.f k A inmU).bind fun es => if es.length ≤ 1000000 then some (es.any (goodB t)) else none) else ((pass_dated.f k A imsU).bind fun a => (pass_dated.f k came lamU).bind fun b => some (a.2 && (b.2 && decide (b.1 ≤ a.1))))) := rfl
  rw [e, g]
  simp only [Option.bind_some]
  unfold goodV
  by_cases hc : 0 < (allV inmU A).length
  · rw [if_pos (decide_eq_true hc), if_pos hc, tag_eval came h' k (by omega)]
    simp only [Option.bind_some]
    obtain ⟨e1, e2⟩ := elems_ok inmU A h
    rw [elems_eval inmU A (by decide) h k (by omega)]
    simp only [Option.bind_some]
    rw [if_pos (by omega)]
  · rw [if_neg (by rw [decide_eq_false hc]; simp), if_neg hc, dated_eval imsU A (by decide) h k (by unfold KD; omega)]
    simp only [Option.bind_some]
    rw [dated_eval lamU came (by decide) h' k (by unfold KD; omega)]
    rfl
theorem good_self (t : ByteArray) (h : t.toList ≠ []) : goodB t t = true := by
  unfold goodB
  have e : (t.toList != ([] : List UInt8)) = true := bne_iff_ne.mpr h
  rw [e]
  simp

/-! ## Tags in a list -/
def tagL (n : Nat) : List UInt8 := [34, UInt8.ofNat (48 + n), 34]
def ElemOk (e : List UInt8) : Prop := (∀ r, endL false (e ++ r) = e.length + endL false r) ∧ keepL (32 :: e) = [e] ∧ keepL e = [e]
theorem keep_both (l m m' : List UInt8) (c d : UInt8) (h1 : l = c :: m) (h2 : l = m' ++ [d]) (hc : [32, 9].contains c = false) (hd : [32, 9].contains d = false) : keepL (32 :: l) = [l] ∧ keepL l = [l] :=
  ⟨keepL_at [32] l m m' c d (by decide) h1 h2 hc hd, keepL_at [] l m m' c d (by simp) h1 h2 hc hd⟩
theorem dig_all : ∀ n : Fin 10, UInt8.ofNat (48 + n.val) ≠ 34 ∧ UInt8.ofNat (48 + n.val) ≠ 92 := by decide +kernel
theorem tag_elem (n : Nat) (h : n < 10) : ElemOk (tagL n) := by
  obtain ⟨d1, d2⟩ := dig_all ⟨n, h⟩
  refine ⟨fun r => ?_, keep_both _ [UInt8.ofNat (48 + n), 34] [34, UInt8.ofNat (48 + n)] 34 34 rfl rfl (by decide) (by decide)⟩
  show endL false (34 :: UInt8.ofNat (48 + n) :: 34 :: r) = 3 + endL false r
  rw [endF_quote, endT_cons _ d1 d2, endT_quote]
  omega
theorem wtag_elem (n : Nat) (h : n < 10) : ElemOk (87 :: 47 :: tagL n) := by
  refine ⟨fun r => ?_, keep_both _ (47 :: tagL n) [87, 47, 34, UInt8.ofNat (48 + n)] 87 34 rfl rfl (by decide) (by decide)⟩
  have := (tag_elem n h).1 r
  show endL false (87 :: 47 :: (tagL n ++ r)) = (tagL n).length + 2 + endL false r
  rw [endF_cons _ (by decide) (by decide), endF_cons _ (by decide) (by decide), this]
  omega
theorem star_elem : ElemOk [42] := by
  refine ⟨fun r => ?_, keep_both _ [] [] 42 42 rfl rfl (by decide) (by decide)⟩
  show endL false (42 :: r) = 1 + endL false r
  exact endF_cons _ (by decide) (by decide)
def moreL (es : List (List UInt8)) : List UInt8 := es.flatMap fun x => 44 :: 32 :: x
theorem list_elems : ∀ (es : List (List UInt8)) (k : Nat) (e p : List UInt8), (p = [] ∨ p = [32]) → ElemOk e → (∀ x ∈ es, ElemOk x) → es.length < k → listL k (p ++ e ++ moreL es) = e :: es := by
  intro es
  induction es with
  | nil =>
    intro k e p hp he _ hk
    obtain ⟨k, rfl⟩ : ∃ j, k = j + 1 := ⟨k - 1, by simp at hk; omega⟩
    have h0 := he.1 []
    rw [List.append_nil] at h0
    have hz : endL false ([] : List UInt8) = 0 := by simp [endL]
    rw [hz] at h0
    show listL (k + 1) (p ++ e ++ []) = [e]
    rw [List.append_nil]
    rcases hp with rfl | rfl
    · rw [List.nil_append, listL_last k e (by omega)]
      exact he.2.2
    · show listL (k + 1) (32 :: e) = [e]
      rw [listL_last k (32 :: e) (by rw [endF_cons _ (by decide) (by decide), List.length_cons]; omega)]
      exact he.2.1
  | cons x es ih =>
    intro k e p hp he hes hk
    obtain ⟨k, rfl⟩ : ∃ j, k = j + 1 := ⟨k - 1, by simp at hk; omega⟩
    have hx := hes x (by simp)
    have ih' := ih k x [32] (Or.inr rfl) hx (fun y hy => hes y (by simp [hy])) (by simp at hk; omega)
    have e1 : p ++ e ++ moreL (x :: es) = (p ++ e) ++ 44 :: ([32] ++ x ++ moreL es) := by simp [moreL]
    rw [e1]
    have hend : endL false ((p ++ e) ++ 44 :: ([32] ++ x ++ moreL es)) = (p ++ e).length := by
      rcases hp with rfl | rfl
      · rw [List.nil_append, he.1, endF_comma]; omega
      · show endL false (32 :: (e ++ 44 :: ([32] ++ x ++ moreL es))) = _
        rw [endF_cons _ (by decide) (by decide), he.1, endF_comma]
        simp; omega
    rw [listL_comma k (p ++ e) _ hend, ih']
    rcases hp with rfl | rfl
    · rw [List.nil_append, he.2.2]; rfl
    · show keepL (32 :: e) ++ _ = _
      rw [he.2.1]; rfl
theorem good_tag : ∀ a n : Fin 10, goodB (toB (tagL a.val)) (toB (tagL n.val)) = decide (n.val = a.val) ∧ goodB (toB (tagL a.val)) (toB (87 :: 47 :: tagL n.val)) = decide (n.val = a.val) := by decide +kernel
theorem good_star (t : ByteArray) : goodB t (toB [42]) = true := by
  unfold goodB
  have : (toB [42]).toList = ([42] : List UInt8) := by rw [ByteArray.toList_eq, toB_list]
  rw [this]
  rfl

/-! ## PassWeak -/
theorem toB_app (a b : List UInt8) : toB a ++ toB b = toB (a ++ b) := by
  rw [← of_list (toB a ++ toB b), ByteArray.data_append, Array.toList_append, toB_list, toB_list]
theorem str_dig (n : Nat) (h : n < 10) : strOfNums [wrap64 (48 + (n : Int)) % 256] = toB [UInt8.ofNat (48 + n)] := by
  rw [w64n (by omega) (by omega), show ((48 + (n : Int)) % 256) = ((48 + n : Nat) : Int) by omega]
  rfl
theorem sz_toB (l : List UInt8) : (toB l).size = l.length := by rw [size_l, toB_list]
theorem tag1_eval (n : Nat) (h : n < 10) : pantrylaw13_PassWeak_1.f (n : Int) = some (toB (tagL n)) := by
  unfold pantrylaw13_PassWeak_1.f
  simp only [Option.bind_some]
  rw [str_dig n h, show (⟨#[34]⟩ : ByteArray) = toB [34] from rfl, toB_app, sz_toB, sz_toB, if_pos (by simp), if_pos (by simp), toB_app]
  rfl
def inmL : ByteArray := ⟨#[105, 102, 45, 110, 111, 110, 101, 45, 109, 97, 116, 99, 104]⟩
theorem inm_same : sameB inmU inmL = true ∧ sameB etagU etagU = true := by decide +kernel
theorem allV_one (n m v : ByteArray) (h : sameB n m = true) : allV n [(⟨m, v⟩ : S49)] = [v] := by
  have := allV_snoc n [] (⟨m, v⟩ : S49)
  rw [List.nil_append] at this
  rw [this, if_pos h]
  rfl
theorem ask_list (a : Nat) (_ha : a < 10) (v : ByteArray) (es : List (List UInt8)) (hv : v.size ≤ 9000) (he : listL (v.size + 1) v.data.toList = es) (k : Nat) (hk : 4000100 < k) :
    pantrylaw13_PassWeak_2.f k v [(⟨etagU, toB (tagL a)⟩ : S49)] = some (es.any fun x => goodB (toB (tagL a)) (toB x)) := by
  have s1 : SmallF [(⟨inmL, v⟩ : S49)] := ⟨by simp, fun f hf => by
    obtain rfl := List.mem_singleton.1 hf
    exact ⟨by show inmL.size ≤ 200; decide, by show v.size ≤ 9100; omega⟩⟩
  have s2 : SmallF [(⟨etagU, toB (tagL a)⟩ : S49)] := ⟨by simp, fun f hf => by
    obtain rfl := List.mem_singleton.1 hf
    exact ⟨by show etagU.size ≤ 200; decide, by show (toB (tagL a)).size ≤ 9100; rw [sz_toB]; simp [tagL]⟩⟩
  have a1 := allV_one inmU inmL v inm_same.1
  have a2 := allV_one etagU etagU (toB (tagL a)) inm_same.2
  have e : pantrylaw13_PassWeak_2.f k v [(⟨etagU, toB (tagL a)⟩ : S49)] = (pass_Good.f k [(⟨inmL, v⟩ : S49)] [(⟨etagU, toB (tagL a)⟩ : S49)]).bind fun t => some t := rfl
  rw [e, good_eval _ _ s1 s2 k hk]
  simp only [Option.bind_some]
  unfold goodV elemsB
  rw [a1, if_pos (by simp), getB_of _ _ _ a1, getB_of _ _ _ a2, he, List.any_map]
  rfl
def listB (e : List UInt8) (ns : List Nat) : List UInt8 := e ++ moreL (ns.map tagL)
theorem more_len : ∀ ns : List Nat, (moreL (ns.map tagL)).length = 5 * ns.length := by
  intro ns
  induction ns with
  | nil => rfl
  | cons n ns ih =>
    show (44 :: 32 :: tagL n ++ moreL (ns.map tagL)).length = _
    rw [List.length_append, ih]
    simp [tagL]
    omega
theorem more_app (xs ys : List (List UInt8)) : moreL (xs ++ ys) = moreL xs ++ moreL ys := by simp [moreL]
theorem tags_ok (ns : List Nat) (h : ∀ n ∈ ns, n < 10) : ∀ x ∈ ns.map tagL, ElemOk x := by
  intro x hx
  obtain ⟨n, hn, rfl⟩ := List.mem_map.1 hx
  exact tag_elem n (h n hn)
def wantV (a : Nat) (w : Bool) (ns : List Nat) : Bool := w || ns.any fun n => decide (n = a)
theorem tags_any (a : Nat) (ha : a < 10) : ∀ ns : List Nat, (∀ n ∈ ns, n < 10) → ((ns.map tagL).any fun x => goodB (toB (tagL a)) (toB x)) = ns.any fun n => decide (n = a) := by
  intro ns
  induction ns with
  | nil => intro _; rfl
  | cons n ns ih =>
    intro h
    have := (good_tag ⟨a, ha⟩ ⟨n, h n (by simp)⟩).1
    simp only at this
    rw [List.map_cons, List.any_cons, List.any_cons, this, ih (fun m hm => h m (by simp [hm]))]
theorem ask_tags (a : Nat) (ha : a < 10) (e : List UInt8) (he : ElemOk e) (hl : e.length ≤ 5) (w : Bool) (hw : goodB (toB (tagL a)) (toB e) = w) (ns : List Nat) (h : ∀ n ∈ ns, n < 10) (hn : ns.length ≤ 10) (k : Nat) (hk : 4000100 < k) :
    pantrylaw13_PassWeak_2.f k (toB (listB e ns)) [(⟨etagU, toB (tagL a)⟩ : S49)] = some (wantV a w ns) := by
  have hz : (toB (listB e ns)).size = e.length + 5 * ns.length := by
    rw [sz_toB]
    unfold listB
    rw [List.length_append, more_len]
  have hL : listL ((toB (listB e ns)).size + 1) (toB (listB e ns)).data.toList = e :: ns.map tagL := by
    rw [toB_list]
    have := list_elems (ns.map tagL) ((toB (listB e ns)).size + 1) e [] (Or.inl rfl) he (tags_ok ns h) (by rw [hz, List.length_map]; omega)
    rw [List.nil_append] at this
    exact this
  rw [ask_list a ha _ _ (by omega) hL k hk, List.any_cons, hw, tags_any a ha ns h]
  rfl
theorem ask_star (a : Nat) (ha : a < 10) (k : Nat) (hk : 4000100 < k) : pantrylaw13_PassWeak_2.f k (⟨#[42]⟩ : ByteArray) [(⟨etagU, toB (tagL a)⟩ : S49)] = some true := by
  rw [ask_list a ha ⟨#[42]⟩ [[42]] (by decide) (by decide +kernel) k hk, List.any_cons, good_star]
  rfl
theorem ask_nil (a : Nat) (ha : a < 10) (k : Nat) (hk : 4000100 < k) : pantrylaw13_PassWeak_2.f k (⟨#[]⟩ : ByteArray) [(⟨etagU, toB (tagL a)⟩ : S49)] = some false := by
  rw [ask_list a ha ⟨#[]⟩ [] (by decide) (by decide +kernel) k hk]
  rfl
theorem ask_and (a : Nat) (ha : a < 10) (e : List UInt8) (he : ElemOk e) (hl : e.length ≤ 5) (ns : List Nat) (h : ∀ n ∈ ns, n < 10) (hn : ns.length ≤ 10) (k : Nat) (hk : 4000100 < k) :
    pantrylaw13_PassWeak_2.f k (toB (listB e ns) ++ (⟨#[44, 32, 42]⟩ : ByteArray)) [(⟨etagU, toB (tagL a)⟩ : S49)] = some true := by
  have e1 : toB (listB e ns) ++ (⟨#[44, 32, 42]⟩ : ByteArray) = toB (e ++ moreL (ns.map tagL ++ [[42]])) := by
    rw [show (⟨#[44, 32, 42]⟩ : ByteArray) = toB [44, 32, 42] from rfl, toB_app, more_app]
    unfold listB
    rw [List.append_assoc]
    rfl
  have hz : (toB (e ++ moreL (ns.map tagL ++ [[42]]))).size = e.length + 5 * ns.length + 3 := by
    rw [sz_toB, List.length_append, more_app, List.length_append, more_len]
    rfl
  have hL : listL ((toB (e ++ moreL (ns.map tagL ++ [[42]]))).size + 1) (toB (e ++ moreL (ns.map tagL ++ [[42]]))).data.toList = e :: (ns.map tagL ++ [[42]]) := by
    rw [toB_list]
    have := list_elems (ns.map tagL ++ [[42]]) ((toB (e ++ moreL (ns.map tagL ++ [[42]]))).size + 1) e [] (Or.inl rfl) he (fun x hx => by
      rcases List.mem_append.1 hx with hx | hx
      · exact tags_ok ns h x hx
      · obtain rfl := List.mem_singleton.1 hx
        exact star_elem) (by rw [hz, List.length_append, List.length_map]; simp; omega)
    rw [List.nil_append] at this
    exact this
  rw [e1, ask_list a ha _ _ (by omega) hL k hk, List.any_cons, List.any_append]
  simp [good_star]
theorem weak_end (a : Nat) (ha : a < 10) (e : List UInt8) (he : ElemOk e) (hl : e.length ≤ 5) (w : Bool) (hw : goodB (toB (tagL a)) (toB e) = w) (ns : List Nat) (h : ∀ n ∈ ns, n < 10) (hn : ns.length ≤ 10) (k : Nat) (hk : 4000100 < k) (y : List S49) (hy : y = [(⟨etagU, toB (tagL a)⟩ : S49)]) (s : ByteArray) (hs : s = toB (listB e ns)) (b : Bool) (hb : b = wantV a w ns) :
    ((pantrylaw13_PassWeak_2.f k s y).bind fun t222 => (if (t222 == b) = true then ((pantrylaw13_PassWeak_2.f k (⟨#[42]⟩ : ByteArray) y).bind fun t223 => (if t223 = true then (if s.size + 3 ≤ 9223372036854775807 then ((pantrylaw13_PassWeak_2.f k (s ++ (⟨#[44, 32, 42]⟩ : ByteArray)) y).bind fun t224 => (if t224 = true then ((pantrylaw13_PassWeak_2.f k (⟨#[]⟩ : ByteArray) y).bind fun t225 => (some (!t225))) else (none))) else (none)) else (none))) else (none))) = some true := by
  subst hy hs hb
  have hz : (toB (listB e ns)).size = e.length + 5 * ns.length := by
    rw [sz_toB]
    unfold listB
    rw [List.length_append, more_len]
  rw [ask_tags a ha e he hl w hw ns h hn k hk]
  simp only [Option.bind_some]
  rw [if_pos (by simp), ask_star a ha k hk]
  simp only [Option.bind_some]
  rw [if_pos trivial, if_pos (by omega), ask_and a ha e he hl ns h hn k hk]
  simp only [Option.bind_some]
  rw [if_pos trivial, ask_nil a ha k hk]
  rfl
theorem weak_l0 (a : Nat) (ha : a < 10) (e : List UInt8) (he : ElemOk e) (hl : e.length ≤ 5) (w : Bool) (hw : goodB (toB (tagL a)) (toB e) = w) (more : List Int) (hm : more.length ≤ 10) (y : List S49) (hy : y = [(⟨etagU, toB (tagL a)⟩ : S49)]) :
    ∀ (d i k : Nat) (ns : List Nat) (s : ByteArray) (b : Bool), i + d = more.length → ns.length = i → (∀ n ∈ ns, n < 10) → s = toB (listB e ns) → b = wantV a w ns → d + 4000101 < k →
    pantrylaw13_PassWeak.l0 k (a : Int) y s b more (more.length : Int) (i : Int) = some true := by
  intro d
  induction d with
  | zero =>
    intro i k ns s b hi hn h hs hb hk
    obtain ⟨k, rfl⟩ : ∃ j, k = j + 1 := ⟨k - 1, by omega⟩
    simp only [pantrylaw13_PassWeak.l0]
    rw [if_neg (by omega)]
    exact weak_end a ha e he hl w hw ns h (by omega) k (by omega) y hy s hs b hb
  | succ d ih =>
    intro i k ns s b hi hn h hs hb hk
    obtain ⟨k, rfl⟩ : ∃ j, k = j + 1 := ⟨k - 1, by omega⟩
    have hlt : i < more.length := by omega
    have hz : s.size = e.length + 5 * ns.length := by
      rw [hs, sz_toB]
      unfold listB
      rw [List.length_append, more_len]
    simp only [pantrylaw13_PassWeak.l0]
    rw [if_pos (by omega), if_pos (by omega), if_pos (by omega)]
    by_cases h1 : rd more (i : Int) < 0
    · rw [if_pos h1]
    · rw [if_neg h1]
      by_cases h2 : rd more (i : Int) > 9
      · rw [if_pos h2]
      · rw [if_neg h2]
        obtain ⟨n, hx⟩ := Int.eq_ofNat_of_zero_le (show 0 ≤ rd more (i : Int) by omega)
        rw [hx] at h1 h2 ⊢
        have hn10 : n < 10 := by omega
        have ht : (toB (tagL n)).size = 3 := by rw [sz_toB]; rfl
        have e2 : (⟨#[44, 32]⟩ : ByteArray) ++ toB (tagL n) = toB (44 :: 32 :: tagL n) := by
          rw [show (⟨#[44, 32]⟩ : ByteArray) = toB [44, 32] from rfl, toB_app]
          rfl
        have e3 : s ++ toB (44 :: 32 :: tagL n) = toB (listB e (ns ++ [n])) := by
          rw [hs, toB_app]
          unfold listB
          rw [List.map_append, more_app, List.append_assoc]
          rfl
        have h' : ∀ m ∈ ns ++ [n], m < 10 := by
          intro m hmm
          rcases List.mem_append.1 hmm with hmm | hmm
          · exact h m hmm
          · obtain rfl := List.mem_singleton.1 hmm
            exact hn10
        have hwn : wantV a w (ns ++ [n]) = (wantV a w ns || decide (n = a)) := by
          unfold wantV
          rw [List.any_append, List.any_cons, List.any_nil, Bool.or_false, Bool.or_assoc]
        rw [tag1_eval n hn10]
        simp only [Option.bind_some]
        rw [e2, e3, ht, if_pos (by omega), if_pos (by rw [sz_toB]; simp [tagL]; omega), w64n (by omega) (by omega)]
        have rc := ih (i + 1) k (ns ++ [n]) (toB (listB e (ns ++ [n]))) (wantV a w (ns ++ [n])) (by omega) (by simp [hn]) h' rfl rfl (by omega)
        rw [show ((i + 1 : Nat) : Int) = (i : Int) + 1 by omega] at rc
        by_cases hc : b = true
        · rw [if_pos hc]
          rw [← hb, hc, Bool.true_or] at hwn
          rw [hwn] at rc
          exact rc
        · rw [if_neg hc]
          rw [← hb, Bool.eq_false_iff.2 hc, Bool.false_or] at hwn
          rw [hwn] at rc
          have e4 : ((n : Int) == (a : Int)) = decide (n = a) := by
            rw [Bool.eq_iff_iff, beq_iff_eq, decide_eq_true_iff]
            omega
          rw [e4]
          exact rc
theorem law_PassWeak (a0 a1 : Int) (a2 : Bool) (l3 : List Int) : ∃ k, pantrylaw13_PassWeak.f k a0 a1 a2 l3 = some true := by
  obtain ⟨K, hK⟩ : ∃ K, 6000000 ≤ K := ⟨_, Nat.le_refl _⟩
  refine ⟨K + 3, ?_⟩
  have jt : pantrylaw13_PassWeak.j0 (K + 3) a0 a1 a2 l3 true = some true := by simp [pantrylaw13_PassWeak.j0]
  unfold pantrylaw13_PassWeak.f
  rw [anchor_ok _ (by omega)]
  simp only [Option.bind_some]
  rw [if_pos trivial]
  by_cases h0 : a0 < 0
  · rw [if_pos h0]; exact jt
  rw [if_neg h0]
  by_cases h1 : a0 > 9
  · rw [if_pos h1]; exact jt
  rw [if_neg h1]
  by_cases h2 : a1 < 0
  · rw [if_pos h2]; exact jt
  rw [if_neg h2]
  by_cases h3 : a1 > 9
  · rw [if_pos h3]; exact jt
  rw [if_neg h3]
  by_cases h4 : (l3.length : Int) > 10
  · rw [decide_eq_true h4]; exact jt
  rw [decide_eq_false h4]
  obtain ⟨a, rfl⟩ := Int.eq_ofNat_of_zero_le (show 0 ≤ a0 by omega)
  obtain ⟨b, rfl⟩ := Int.eq_ofNat_of_zero_le (show 0 ≤ a1 by omega)
  have ha : a < 10 := by omega
  have hb : b < 10 := by omega
  have e4 : ((a : Int) == (b : Int)) = decide (b = a) := by
    rw [Bool.eq_iff_iff, beq_iff_eq, decide_eq_true_iff]
    omega
  have fin : ∀ (e : List UInt8) (y : List S49), ElemOk e → e.length ≤ 5 → goodB (toB (tagL a)) (toB e) = decide (b = a) → y = [(⟨etagU, toB (tagL a)⟩ : S49)] → pantrylaw13_PassWeak.j1 (K + 2) (a : Int) (b : Int) l3 y (toB e) = some true := by
    intro e y he hl hg hy
    simp only [pantrylaw13_PassWeak.j1]
    rw [e4]
    exact weak_l0 a ha e he hl _ hg l3 (by omega) y hy l3.length 0 (K + 1) [] (toB e) _ (by omega) rfl (by simp) (by unfold listB; simp [moreL]) (by simp [wantV]) (by omega)
  have hg := good_tag ⟨a, ha⟩ ⟨b, hb⟩
  simp only at hg
  have hs : (toB (tagL b)).size = 3 := by rw [sz_toB]; rfl
  simp only [pantrylaw13_PassWeak.j0]
  rw [if_neg (by simp), tag1_eval a ha]
  simp only [Option.bind_some]
  rw [tag1_eval b hb]
  simp only [Option.bind_some]
  cases a2 with
  | false =>
    rw [if_neg (by simp)]
    exact fin _ _ (tag_elem b hb) (by simp [tagL]) hg.1 rfl
  | true =>
    rw [if_pos rfl, hs, if_pos (by omega), show (⟨#[87, 47]⟩ : ByteArray) = toB [87, 47] from rfl, toB_app]
    exact fin _ _ (wtag_elem b hb) (by simp [tagL]) hg.2 rfl

end Go.Proofs.YtcechlbeghcliaaDoor.PAll
