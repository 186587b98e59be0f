import Derived.Test.YtgpekljckdgggaaGreatDoorPAllx0
import Derived.Test.YtgpekljckdgggaaGreatDoorPAllx1
import Derived.Test.YtgpekljckdgggaaGreatDoorPAllx2
import Derived.Test.YtgpekljckdgggaaGreatDoorPAllx3
import Derived.Test.YtgpekljckdgggaaGreatDoorPAllx4
import Derived.Test.YtgpekljckdgggaaGreatDoorPAllx5
import Derived.Test.YtgpekljckdgggaaGreatDoorPAllx6
import Derived.Test.YtgpekljckdgggaaGreatDoorPAllx7
import Derived.Test.YtgpekljckdgggaaGreatDoorPAllx8
import Derived.Test.YtgpekljckdgggaaGreatDoorPAllx9
import Derived.Test.YtgpekljckdgggaaGreatDoorPAllx10
import Derived.Test.YtgpekljckdgggaaGreatDoorPAllx11
import Derived.Test.YtgpekljckdgggaaGreatDoorPAllx12
import Derived.Test.YtgpekljckdgggaaGreatDoorPAllx13
import Derived.Test.YtgpekljckdgggaaGreatDoorPAllx14
import Derived.Test.YtgpekljckdgggaaGreatDoorPAllx15
import Derived.Test.YtgpekljckdgggaaGreatDoorPAllx16
import Derived.Test.YtgpekljckdgggaaGreatDoorPAllx17
import Derived.Test.YtgpekljckdgggaaGreatDoorPAllx18
import Derived.Test.YtgpekljckdgggaaGreatDoorPAllx19
import Derived.Test.YtgpekljckdgggaaGreatDoorPAllx20
import Derived.Lib.Join
namespace Go.Proofs.YtgpekljckdgggaaGreatDoor.PAll
open Go.RowKit Go.Proofs.YtgpekljckdgggaaGreatDoorW.PrintWords Go.Proofs.YtgpekljckdgggaaGreatDoorW.PrintLast Go.Proofs.YtgpekljckdgggaaGreatDoorW.PrintMore
set_option linter.unusedVariables false
set_option linter.unusedSimpArgs false

theorem lowB_list (s : ByteArray) : (lowB s).data.toList = lowL s.data.toList := by simp [lowB]

theorem bt_at2 (s : ByteArray) (i : Nat) (h : i < s.data.toList.length) : bt s (i : Int) = ((s.data.toList[i]).toNat : Int) := by
 have h' : i < s.size := by simpa using h
 unfold bt
 simp only [Int.toNat_natCast]
 rw [dif_pos h']
 rfl

/-! What Without comes to (where With is not printed) -/
def isOf (ns : List ByteArray) (o : S46) : Bool := ns.any fun n => sameB n o.f0
theorem w64n {x : Int} (h0 : -9223372036854775808 ≤ x) (h1 : x ≤ 9223372036854775807) : wrap64 x = x := by unfold wrap64; omega

/-! ## Fields, as lists -/
theorem anchor60 : pantrylaw12_anchor.f 60 = some true := by decide +kernel
theorem anchor_ok (k : Nat) (hk : 60 ≤ k) : pantrylaw12_anchor.f k = some true := by
 obtain ⟨j, rfl⟩ : ∃ j, k = 60 + j := ⟨k - 60, by omega⟩
 clear hk
 induction j with
 | zero => exact anchor60
 | succ j ih => exact pantrylaw12_anchor.mono _ _ ih
theorem rd39 (l : List S46) (i : Nat) (h : i < l.length) : rd_T46 l (i : Int) = l[i] := by simp [rd_T46, h]
theorem rdB (l : List ByteArray) (i : Nat) (h : i < l.length) : rdOf ByteArray.empty l (i : Int) = l[i] := by simp [rdOf, h]
def SmallF (l : List S46) : Prop := l.length ≤ 70 ∧ ∀ f ∈ l, f.f0.size ≤ 200 ∧ f.f1.size ≤ 1100
def SmallP (l : List S46) : Prop := l.length ≤ 30 ∧ ∀ f ∈ l, f.f0.size ≤ 100 ∧ f.f1.size ≤ 300
theorem SmallP.F {l : List S46} (h : SmallP l) : SmallF l := ⟨by have := h.1; omega, fun f hf => by have := h.2 f hf; omega⟩
theorem small_l0 (l : List S46) (hl : l.length ≤ 9223372036854775807) : ∀ (d i k : Nat), i + d = l.length → d < k →
  ∃ b, pantrylaw12_small.l0 k l l (l.length : Int) (i : Int) = some b ∧ (b = true → l.length ≤ 30 ∧ ∀ f ∈ l.drop i, f.f0.size ≤ 100 ∧ f.f1.size ≤ 300) := by
 intro d
 induction d with
 | zero =>
  intro i k hi hk
  obtain ⟨k, rfl⟩ : ∃ j, k = j + 1 := ⟨k - 1, by omega⟩
  simp only [pantrylaw12_small.l0]
  rw [if_neg (by omega)]
  refine ⟨_, rfl, fun h => ?_⟩
  have := of_decide_eq_true h
  rw [List.drop_of_length_le (by omega)]
  exact ⟨by omega, fun f hf => by cases hf⟩
 | succ d ih =>
  intro i k hi hk
  obtain ⟨k, rfl⟩ : ∃ j, k = j + 1 := ⟨k - 1, by omega⟩
  have hlt : i < l.length := by omega
  simp only [pantrylaw12_small.l0]
  rw [if_pos (by omega), if_pos (by omega), if_pos (by omega), rd39 l i hlt]
  by_cases h1 : ((l[i].f0).size : Int) > 100
  ·
   rw [if_pos h1]; exact ⟨false, rfl, fun h => by cases h⟩
  ·
   rw [if_neg h1]
   by_cases h2 : ((l[i].f1).size : Int) > 300
   ·
    rw [if_pos h2]; exact ⟨false, rfl, fun h => by cases h⟩
   ·
    rw [if_neg h2, w64n (by omega) (by omega)]
    obtain ⟨b, hb, hs⟩ := ih (i + 1) k (by omega) (by omega)
    refine ⟨b, hb, fun h => ?_⟩
    obtain ⟨h3, h4⟩ := hs h
    refine ⟨h3, fun f hf => ?_⟩
    rw [List.drop_eq_getElem_cons hlt] at hf
    rcases List.mem_cons.1 hf with rfl | hf
    ·
     exact ⟨by omega, by omega⟩
    ·
     exact h4 f hf
theorem small_eval (l : List S46) (hl : l.length ≤ 9223372036854775807) (k : Nat) (hk : l.length < k) : ∃ b, pantrylaw12_small.f k l = some b ∧ (b = true → SmallP l) := by
 obtain ⟨b, hb, hs⟩ := small_l0 l hl l.length 0 k (by omega) hk
 exact ⟨b, hb, fun h => by simpa [SmallP] using hs h⟩

theorem rd36 (l : List S70) (i : Nat) (h : i < l.length) : rd_T70 l (i : Int) = l[i] := by simp [rd_T70, h]
def conv (f : S46) : S70 := ⟨f.f0, f.f1⟩
theorem made_l0 (l : List S46) (hl : l.length < 4398046511104) : ∀ (d i : Nat) (acc : List S70) (k : Nat), i + d = l.length → acc.length ≤ i → d < k →
  pantrymade_Fields.l0 k acc l (l.length : Int) (i : Int) = some (acc ++ (l.drop i).map conv) := by
 intro d
 induction d with
 | zero =>
  intro i acc k hi ha hk
  obtain ⟨k, rfl⟩ : ∃ j, k = j + 1 := ⟨k - 1, by omega⟩
  simp only [pantrymade_Fields.l0]
  rw [if_neg (by omega), List.drop_of_length_le (by omega)]
  simp
 | succ d ih =>
  intro i acc k hi ha hk
  obtain ⟨k, rfl⟩ : ∃ j, k = j + 1 := ⟨k - 1, by omega⟩
  have hlt : i < l.length := by omega
  simp only [pantrymade_Fields.l0]
  rw [if_pos (by omega), if_pos (by omega), if_pos (by omega), if_pos (by omega), rd39 l i hlt, w64n (by omega) (by omega)]
  have := ih (i + 1) (acc ++ [conv l[i]]) k (by omega) (by simp; omega) (by omega)
  rw [show ((i + 1 : Nat) : Int) = (i : Int) + 1 by omega] at this
  rw [List.drop_eq_getElem_cons hlt, List.map_cons, ← List.singleton_append (x := conv l[i]), ← List.append_assoc]
  exact this
theorem made_eval (l : List S46) (hl : l.length < 4398046511104) (k : Nat) (hk : l.length < k) : pantrymade_Fields.f k l = some (l.map conv) := by
 unfold pantrymade_Fields.f
 have := made_l0 l hl l.length 0 [] k (by omega) (by simp) hk
 simpa using this

/-! The reference's small letters -/
def lowI (x : Int) : Int := if x ≥ 65 ∧ x ≤ 90 then (x + 32) % 256 else x
theorem lowI_u8 (c : UInt8) : UInt8.ofNat (lowI (c.toNat : Int)).toNat = lowU c := by
 have := c.toNat_lt
 unfold lowI lowU
 by_cases h : 65 ≤ c.toNat ∧ c.toNat ≤ 90
 ·
  rw [if_pos (by omega), if_pos h]
  congr 1
  omega
 ·
  rw [if_neg (by omega), if_neg h]
  simp
theorem rlow_l0 (s : ByteArray) (hs : s.size ≤ 140737488351232) : ∀ (d i : Nat) (acc : List Int) (k : Nat), i + d = s.size → acc.length ≤ i → d < k →
  pantryref01_Lower.l0 k s acc (i : Int) = some (strOfNums (acc ++ (s.data.toList.drop i).map fun c => lowI (c.toNat : Int))) := by
 intro d
 induction d with
 | zero =>
  intro i acc k hi ha hk
  obtain ⟨k, rfl⟩ : ∃ j, k = j + 1 := ⟨k - 1, by omega⟩
  have hz : s.data.toList.length = s.size := by simp
  simp only [pantryref01_Lower.l0]
  rw [if_neg (by omega), List.drop_of_length_le (by omega)]
  simp
 | succ d ih =>
  intro i acc k hi ha hk
  obtain ⟨k, rfl⟩ : ∃ j, k = j + 1 := ⟨k - 1, by omega⟩
  have hz : s.data.toList.length = s.size := by simp
  have hlt : i < s.data.toList.length := by omega
  simp only [pantryref01_Lower.l0]
  rw [if_pos (by omega), if_pos (by omega), bt_at2 s i hlt, w64n (by omega) (by omega)]
  have hc := (s.data.toList[i]).toNat_lt
  rw [List.drop_eq_getElem_cons hlt, List.map_cons]
  have step : ∀ x : Int, lowI ((s.data.toList[i]).toNat : Int) = x → pantryref01_Lower.l0 k s (acc ++ [x]) ((i : Int) + 1) = some (strOfNums (acc ++ lowI ((s.data.toList[i]).toNat : Int) :: (s.data.toList.drop (i + 1)).map fun c => lowI (c.toNat : Int))) := by
   rintro x rfl
   have := ih (i + 1) (acc ++ [lowI ((s.data.toList[i]).toNat : Int)]) k (by omega) (by simp; omega) (by omega)
   rw [show ((i + 1 : Nat) : Int) = (i : Int) + 1 by omega] at this
   rw [this, List.append_assoc]
   rfl
  by_cases h1 : ((s.data.toList[i]).toNat : Int) ≥ 65
  ·
   rw [if_pos h1]
   by_cases h2 : ((s.data.toList[i]).toNat : Int) ≤ 90
   ·
    rw [if_pos h2, if_pos (by omega)]
    exact step _ (by unfold lowI; rw [if_pos ⟨h1, h2⟩])
   ·
    rw [if_neg h2, if_pos (by omega)]
    exact step _ (by unfold lowI; rw [if_neg (by omega)])
  ·
   rw [if_neg h1, if_pos (by omega)]
   exact step _ (by unfold lowI; rw [if_neg (by omega)])
theorem rlow_eval (s : ByteArray) (hs : s.size ≤ 140737488351232) (k : Nat) (hk : s.size < k) : pantryref01_Lower.f k s = some (lowB s) := by
 unfold pantryref01_Lower.f
 have := rlow_l0 s hs s.size 0 [] k (by omega) (by simp) hk
 rw [show ((0 : Nat) : Int) = 0 from rfl] at this
 rw [this]
 congr 1
 unfold strOfNums lowB lowL
 simp only [List.nil_append, List.drop_zero, List.map_map]
 congr 2
 apply List.map_congr_left
 intro c _
 exact lowI_u8 c

theorem is_eval (f v n : ByteArray) (hf : f.size ≤ 140737488351232) (hn : n.size ≤ 140737488351232) (k : Nat) (hk : f.size < k) (hk2 : n.size < k) : pantryref03_Field_Is.f k f v n = some (sameB n f) := by
 unfold pantryref03_Field_Is.f
 rw [rlow_eval f hf k hk, rlow_eval n hn k hk2]
 simp only [Option.bind_some]
 congr 1
 unfold sameB
 rw [ByteArray.toList_eq, ByteArray.toList_eq, Bool.eq_iff_iff, beq_iff_eq, beq_iff_eq]
 simp only [lowB]
 exact eq_comm

/-! ## All, Get, Same -/
def allV (n : ByteArray) (l : List S46) : List ByteArray := (l.filter (isOf [n])).map (·.f1)
theorem all_l0 (n : ByteArray) (l : List S46) (hn : n.size ≤ 140737488351232) (hl : ∀ x ∈ l, x.f0.size ≤ 140737488351232) (hlen : l.length < 4398046511104) :
  ∀ (d i : Nat) (acc : List ByteArray) (k : Nat), i + d = l.length → acc.length ≤ i → d < k →
  field_List_All.l0 k n acc l (l.length : Int) (i : Int) = some (acc ++ allV n (l.drop i)) := by
 intro d
 induction d with
 | zero =>
  intro i acc k hi ha hk
  obtain ⟨k, rfl⟩ : ∃ j, k = j + 1 := ⟨k - 1, by omega⟩
  simp only [field_List_All.l0]
  rw [if_neg (by omega), List.drop_of_length_le (by omega)]
  simp [allV]
 | succ d ih =>
  intro i acc k hi ha hk
  obtain ⟨k, rfl⟩ : ∃ j, k = j + 1 := ⟨k - 1, by omega⟩
  have hlt : i < l.length := by omega
  simp only [field_List_All.l0]
  rw [if_pos (by omega), if_pos (by omega), if_pos (by omega), rd39 l i hlt]
  unfold field_Field_named.f
  rw [if_pos ⟨hl _ (List.getElem_mem hlt), by simp, by simpa using hn⟩]
  simp only [Option.bind_some]
  rw [List.drop_eq_getElem_cons hlt, w64n (by omega) (by omega)]
  by_cases hs : isOf [n] l[i] = true
  ·
   have hs' : ([n].any fun n => sameB n l[i].f0) = true := hs
   rw [if_pos hs', if_pos (by omega)]
   have := ih (i + 1) (acc ++ [l[i].f1]) k (by omega) (by simp; omega) (by omega)
   rw [show ((i + 1 : Nat) : Int) = (i : Int) + 1 by omega] at this
   rw [this]
   unfold allV
   rw [List.filter_cons_of_pos hs, List.append_assoc]
   rfl
  ·
   have hs' : ¬ ([n].any fun n => sameB n l[i].f0) = true := hs
   rw [if_neg hs']
   have := ih (i + 1) acc k (by omega) (by omega) (by omega)
   rw [show ((i + 1 : Nat) : Int) = (i : Int) + 1 by omega] at this
   rw [this]
   unfold allV
   rw [List.filter_cons_of_neg hs]
theorem all_eval (n : ByteArray) (l : List S46) (hn : n.size ≤ 140737488351232) (hl : ∀ x ∈ l, x.f0.size ≤ 140737488351232) (hlen : l.length < 4398046511104) (k : Nat) (hk : l.length < k) : field_List_All.f k l n = some (allV n l) := by
 unfold field_List_All.f
 have := all_l0 n l hn hl hlen l.length 0 [] k (by omega) (by simp) hk
 simpa using this
theorem inter_len (sep : List UInt8) (M : Nat) : ∀ (xs : List (List UInt8)), (∀ x ∈ xs, x.length ≤ M) → (sep.intercalate xs).length ≤ xs.length * (M + sep.length) := by
 intro xs
 induction xs with
 | nil => intro _; simp [List.intercalate]
 | cons x xs ih =>
  intro h
  have h1 := h x (by simp)
  have h2 := ih (fun y hy => h y (by simp [hy]))
  cases xs with
  | nil => simp [List.intercalate]; omega
  | cons y ys =>
   have e : sep.intercalate (x :: y :: ys) = x ++ (sep ++ sep.intercalate (y :: ys)) := by simp [List.intercalate]
   rw [e]
   simp only [List.length_append, List.length_cons, Nat.add_mul, Nat.one_mul] at *
   omega
theorem get_eval (n : ByteArray) (l : List S46) (hn : n.size ≤ 140737488351232) (hs : ∀ x ∈ l, x.f0.size ≤ 200 ∧ x.f1.size ≤ 1100) (hlen : l.length ≤ 1000000) (k : Nat) (hk : l.length < k) :
  field_List_Get.f k l n = some (⟨(joinB (allV n l) ⟨#[44, 32]⟩).toArray⟩, decide (0 < (allV n l).length)) := by
 unfold field_List_Get.f
 rw [all_eval n l hn (fun x hx => by have := (hs x hx).1; omega) (by omega) k hk]
 simp only [Option.bind_some]
 have hle : (allV n l).length ≤ l.length := by
  unfold allV
  rw [List.length_map]
  exact List.length_filter_le _ _
 have hok : joinOk (allV n l) ⟨#[44, 32]⟩ := by
  refine ⟨by omega, ?_⟩
  unfold joinB Lib.join
  have := inter_len (⟨#[44, 32]⟩ : ByteArray).data.toList 1100 ((allV n l).map (·.data.toList)) (fun x hx => by
   obtain ⟨y, hy, rfl⟩ := List.mem_map.1 hx
   unfold allV at hy
   obtain ⟨f, hf, rfl⟩ := List.mem_map.1 hy
   have := (hs f (List.mem_filter.1 hf).1).2
   simpa using this)
  rw [List.length_map] at this
  have h2 : ((⟨#[44, 32]⟩ : ByteArray).data.toList).length = 2 := rfl
  rw [h2] at this
  have : (allV n l).length * (1100 + 2) ≤ 1000000 * 1102 := Nat.mul_le_mul_right _ (by omega)
  omega
 unfold strings_Join.f
 rw [if_pos hok]
 simp only [Option.bind_some]
 congr 2
 rw [decide_eq_decide]
 omega

/-! ## FieldParts -/
theorem inter_app (sep : List UInt8) : ∀ (A B : List (List UInt8)), A ≠ [] → B ≠ [] → sep.intercalate (A ++ B) = sep.intercalate A ++ (sep ++ sep.intercalate B) := by
 intro A
 induction A with
 | nil => intro B h; exact absurd rfl h
 | cons x A ih =>
  intro B _ hB
  cases A with
  | nil =>
   cases B with
   | nil => exact absurd rfl hB
   | cons y ys => simp [List.intercalate]
  | cons z A =>
   have := ih B (by simp) hB
   have e1 : sep.intercalate (x :: z :: A) = x ++ (sep ++ sep.intercalate (z :: A)) := by simp [List.intercalate]
   have e2 : sep.intercalate (x :: z :: A ++ B) = x ++ (sep ++ sep.intercalate (z :: A ++ B)) := by simp [List.intercalate]
   rw [e1, e2, this]
   simp
def commaB : ByteArray := ⟨#[44, 32]⟩
def getB (n : ByteArray) (l : List S46) : ByteArray := ⟨(joinB (allV n l) commaB).toArray⟩
theorem getB_list (n : ByteArray) (l : List S46) : (getB n l).toList = joinB (allV n l) commaB := by
 rw [ByteArray.toList_eq]
 simp [getB]
theorem allV_app (n : ByteArray) (a b : List S46) : allV n (a ++ b) = allV n a ++ allV n b := by
 unfold allV
 rw [List.filter_append, List.map_append]
theorem joinB_app (A B : List ByteArray) (hA : A ≠ []) (hB : B ≠ []) : joinB (A ++ B) commaB = joinB A commaB ++ ([44, 32] ++ joinB B commaB) := by
 unfold joinB Lib.join
 rw [List.map_append]
 exact inter_app _ _ _ (by simpa using hA) (by simpa using hB)
theorem getB_size (n : ByteArray) (l : List S46) (h : SmallF l) : (getB n l).size ≤ 80000 := by
 have hle : (allV n l).length ≤ l.length := by
  unfold allV
  rw [List.length_map]
  exact List.length_filter_le _ _
 have := inter_len commaB.data.toList 1100 ((allV n l).map (·.data.toList)) (fun x hx => by
  obtain ⟨y, hy, rfl⟩ := List.mem_map.1 hx
  unfold allV at hy
  obtain ⟨f, hf, rfl⟩ := List.mem_map.1 hy
  have := (h.2 f (List.mem_filter.1 hf).1).2
  simpa using this)
 rw [List.length_map] at this
 have h2 : (commaB.data.toList).length = 2 := rfl
 rw [h2] at this
 have h3 : (allV n l).length * (1100 + 2) ≤ 70 * 1102 := Nat.mul_le_mul_right _ (by have := h.1; omega)
 have h4 : (getB n l).size = (joinB (allV n l) commaB).length := by
  show (joinB (allV n l) commaB).toArray.size = _
  simp
 rw [h4]
 show (List.intercalate _ _).length ≤ _
 omega

/-! ## Lists of elements -/
def endL : Bool → List UInt8 → Nat
 | _, [] => 0
 | q, [c] => if c = 34 then 1 else if q = true ∧ c = 92 then 1 else if q = false ∧ c = 44 then 0 else 1
 | q, c :: d :: l => if c = 34 then 1 + endL (!q) (d :: l) else if q = true ∧ c = 92 then 2 + endL q l else if q = false ∧ c = 44 then 0 else 1 + endL q (d :: l)
theorem endL_le : ∀ (n : Nat) (l : List UInt8) (q : Bool), l.length ≤ n → endL q l ≤ l.length := by
 intro n
 induction n with
 | zero =>
  intro l q h
  obtain rfl := List.eq_nil_of_length_eq_zero (by omega : l.length = 0)
  simp [endL]
 | succ n ih =>
  intro l q h
  match l, h with
  | [], _ => simp [endL]
  | [c], _ =>
   unfold endL
   simp only [List.length_cons, List.length_nil]
   split
   ·
    omega
   ·
    split
    ·
     omega
    ·
     split <;> omega
  | c :: d :: l, h =>
   simp only [List.length_cons] at h
   have h1 := ih (d :: l) (!q) (by simp; omega)
   have h2 := ih l q (by omega)
   have h3 := ih (d :: l) q (by simp; omega)
   unfold endL
   simp only [List.length_cons] at *
   split
   ·
    omega
   ·
    split
    ·
     omega
    ·
     split <;> omega
theorem u8_eq (c d : UInt8) : ((c.toNat : Int) = (d.toNat : Int)) ↔ c = d := by
 constructor
 ·
  intro h
  exact UInt8.toNat_inj.1 (by omega)
 ·
  rintro rfl; rfl
theorem end_past (s : ByteArray) (q : Bool) (i : Nat) (h : s.size ≤ i) (k : Nat) (hk : 0 < k) : sign_end.l0 k s q (i : Int) = some (s.size : Int) := by
 obtain ⟨k, rfl⟩ : ∃ j, k = j + 1 := ⟨k - 1, by omega⟩
 simp only [sign_end.l0]
 rw [if_neg (by omega)]
theorem end_l0 (s : ByteArray) (hs : s.size ≤ 1000000000) : ∀ (d i k : Nat) (q : Bool), i + d = s.size → 2 * d + 1 < k → sign_end.l0 k s q (i : Int) = some ((i + endL q (s.data.toList.drop i) : Nat) : Int) := by
 intro d
 induction d using Nat.strongRecOn with
 | _ d ih =>
  intro i k q hi hk
  have hz : s.data.toList.length = s.size := by simp
  cases d with
  | zero =>
   rw [end_past s q i (by omega) k (by omega), List.drop_of_length_le (by omega)]
   simp only [endL]
   congr 2
   omega
  | succ d =>
   obtain ⟨k, rfl⟩ : ∃ j, k = j + 1 := ⟨k - 1, by omega⟩
   have hlt : i < s.data.toList.length := by omega
   have n1 : ∀ (kk : Nat), 2 * d + 1 < kk → ∀ (q : Bool), sign_end.l0 kk s q ((i : Int) + 1) = some ((i + 1 + endL q (s.data.toList.drop (i + 1)) : Nat) : Int) := fun kk hkk q => by
    have := ih d (by omega) (i + 1) kk q (by omega) hkk
    rwa [show ((i + 1 : Nat) : Int) = (i : Int) + 1 by omega] at this
   have n2 : d = 0 ∨ 0 < d ∧ ∀ (kk : Nat), 2 * d < kk → ∀ (q : Bool), sign_end.l0 kk s q ((i : Int) + 1 + 1) = some ((i + 2 + endL q (s.data.toList.drop (i + 2)) : Nat) : Int) := by
    rcases Nat.eq_zero_or_pos d with h | h
    ·
     exact .inl h
    ·
     refine .inr ⟨h, fun kk hkk q => ?_⟩
     have := ih (d - 1) (by omega) (i + 2) kk q (by omega) (by omega)
     rwa [show ((i + 2 : Nat) : Int) = (i : Int) + 1 + 1 by omega] at this
   simp only [sign_end.l0]
   have hbt := bt_at2 s i hlt
   rw [if_pos (by omega), if_pos (by omega), hbt, w64n (by omega) (by omega)]
   rw [List.drop_eq_getElem_cons hlt]
   have e34 : ((s.data.toList[i]).toNat : Int) = 34 ↔ s.data.toList[i] = 34 := u8_eq _ 34
   have e92 : ((s.data.toList[i]).toNat : Int) = 92 ↔ s.data.toList[i] = 92 := u8_eq _ 92
   have e44 : ((s.data.toList[i]).toNat : Int) = 44 ↔ s.data.toList[i] = 44 := u8_eq _ 44
   generalize s.data.toList[i] = c at *
   have hstep : ∀ (q q' : Bool), endL q (c :: s.data.toList.drop (i + 1)) = 1 + endL q' (s.data.toList.drop (i + 1)) → some ((i + 1 + endL q' (s.data.toList.drop (i + 1)) : Nat) : Int) = some ((i + endL q (c :: s.data.toList.drop (i + 1)) : Nat) : Int) := by
    intro q q' h
    rw [h]
    congr 2
    omega
   by_cases h1 : c = 34
   ·
    rw [if_pos (e34.2 h1), n1 _ (by omega)]
    refine hstep _ _ ?_
    subst h1
    cases s.data.toList.drop (i + 1) <;> simp [endL]
   ·
    rw [if_neg (fun h => h1 (e34.1 h))]
    cases q with
    | true =>
     rw [if_pos rfl]
     obtain ⟨k, rfl⟩ : ∃ j, k = j + 1 := ⟨k - 1, by omega⟩
     simp only [sign_end.j1]
     by_cases h2 : c = 92
     ·
      have hb : (((c.toNat : Int)) == 92) = true := beq_iff_eq.2 (e92.2 h2)
      rw [hb, if_pos rfl, w64n (x := (i : Int) + 1) (by omega) (by omega), w64n (by omega) (by omega)]
      rcases n2 with rfl | ⟨hd0, n2⟩
      ·
       have := end_past s true (i + 2) (by omega) k (by omega)
       rw [show ((i + 2 : Nat) : Int) = (i : Int) + 1 + 1 by omega] at this
       rw [this, List.drop_of_length_le (by omega)]
       subst h2
       have e1 : endL true [(92 : UInt8)] = 1 := by decide
       rw [e1]
       exact congrArg some (by omega)
      ·
       rw [n2 _ (by omega)]
       subst h2
       cases hd : s.data.toList.drop (i + 1) with
       | nil =>
        have := congrArg List.length hd
        rw [List.length_drop] at this
        simp only [List.length_nil] at this
        omega
       | cons x l =>
        have e2 : s.data.toList.drop (i + 2) = l := by
         have := congrArg (List.drop 1) hd
         rw [List.drop_drop] at this
         simpa using this
        rw [e2]
        have e1 : endL true ((92 : UInt8) :: x :: l) = 2 + endL true l := by simp [endL]
        rw [e1]
        exact congrArg some (by omega)
     ·
      have hb : (((c.toNat : Int)) == 92) = false := beq_eq_false_iff_ne.2 (fun h => h2 (e92.1 h))
      rw [hb, if_neg (by simp), if_pos trivial, w64n (by omega) (by omega), n1 _ (by omega)]
      refine hstep _ _ ?_
      cases s.data.toList.drop (i + 1) <;> simp [endL, h1, h2]
    | false =>
     rw [if_neg (by simp)]
     obtain ⟨k, rfl⟩ : ∃ j, k = j + 1 := ⟨k - 1, by omega⟩
     simp only [sign_end.j1]
     rw [if_neg (by simp), if_neg (by simp), if_pos (by omega), if_pos (by omega), hbt]
     by_cases h3 : c = 44
     ·
      rw [if_pos (e44.2 h3)]
      subst h3
      cases s.data.toList.drop (i + 1) <;> simp [endL]
     ·
      rw [if_neg (fun h => h3 (e44.1 h)), w64n (by omega) (by omega), n1 _ (by omega)]
      refine hstep _ _ ?_
      cases s.data.toList.drop (i + 1) <;> simp [endL, h1, h3]

def toB (l : List UInt8) : ByteArray := ⟨l.toArray⟩
theorem toB_list (l : List UInt8) : (toB l).data.toList = l := by simp [toB]
theorem of_list (s : ByteArray) : toB s.data.toList = s := by cases s; simp [toB]
theorem size_l (s : ByteArray) : s.size = s.data.toList.length := by simp
theorem ext_l (s : ByteArray) (a b : Nat) : (s.extract a b).data.toList = (s.data.toList.drop a).take (b - a) := by
 rw [ByteArray.data_extract, Array.toList_extract]
def trimL (l : List UInt8) : List UInt8 := Lib.trimS l [32, 9]
theorem dropWhile_len {α : Type} (p : α → Bool) (l : List α) : (l.dropWhile p).length ≤ l.length := (List.dropWhile_sublist p).length_le
theorem trimL_len (l : List UInt8) : (trimL l).length ≤ l.length := by
 unfold trimL Lib.trimS Lib.trimLeftS Lib.trimRightS
 refine Nat.le_trans (dropWhile_len _ _) ?_
 rw [List.length_reverse]
 refine Nat.le_trans (dropWhile_len _ _) ?_
 rw [List.length_reverse]
 exact Nat.le_refl _
theorem trim_eval (s : ByteArray) (hs : s.size ≤ 9223372036854775807) : sign_Trim.f s = some (toB (trimL s.data.toList)) := by
 unfold sign_Trim.f strings_Trim.f
 rw [if_pos ⟨hs, by decide, by decide⟩]
 rfl
def listL : Nat → List UInt8 → List (List UInt8)
 | 0, _ => []
 | k + 1, l => if l = [] then [] else (if trimL (l.take (endL false l)) = [] then [] else [trimL (l.take (endL false l))]) ++ listL k (l.drop (endL false l + 1))
theorem list_l0 : ∀ (n : Nat) (s : ByteArray) (acc : List ByteArray) (k : Nat), s.size ≤ n → n ≤ 1000000000 → acc.length + s.size ≤ 1000000000 → 3 * n + 10 < k →
  sign_List.l0 k s acc = some (acc ++ (listL (n + 1) s.data.toList).map toB) := by
 intro n
 induction n with
 | zero =>
  intro s acc k h0 h1 h2 hk
  obtain ⟨k, rfl⟩ : ∃ j, k = j + 1 := ⟨k - 1, by omega⟩
  have hnil : s.data.toList = [] := List.eq_nil_of_length_eq_zero (by rw [← size_l]; omega)
  simp only [sign_List.l0]
  rw [ByteArray.toList_eq, hnil, if_pos rfl]
  simp [listL]
 | succ n ih =>
  intro s acc k h0 h1 h2 hk
  obtain ⟨k, rfl⟩ : ∃ j, k = j + 1 := ⟨k - 1, by omega⟩
  simp only [sign_List.l0]
  rw [ByteArray.toList_eq]
  by_cases hnil : s.data.toList = []
  ·
   rw [if_pos hnil, hnil]
   simp [listL]
  ·
   rw [if_neg hnil]
   have hpos : 0 < s.size := by
    rw [size_l]
    exact List.length_pos_iff.2 hnil
   have he : sign_end.f k s = some ((endL false s.data.toList : Nat) : Int) := by
    unfold sign_end.f
    have := end_l0 s (by omega) s.size 0 k false (by omega) (by omega)
    rw [List.drop_zero, Nat.zero_add] at this
    exact this
   have hle := endL_le s.data.toList.length s.data.toList false (Nat.le_refl _)
   rw [← size_l] at hle
   rw [he]
   simp only [Option.bind_some]
   rw [listL, if_neg hnil]
   generalize hE : endL false s.data.toList = E at *
   rw [if_pos (by omega), if_pos (by omega), trim_eval _ (by rw [ByteArray.size_extract]; omega)]
   simp only [Option.bind_some]
   rw [ByteArray.toList_eq, toB_list, ext_l, Int.toNat_natCast, List.drop_zero, Nat.sub_zero]
   have hmn : mn (wrap64 ((E : Int) + 1)) (s.size : Int) = ((min (E + 1) s.size : Nat) : Int) := by
    rw [w64n (by omega) (by omega)]
    unfold mn
    split <;> omega
   rw [hmn, Int.toNat_natCast]
   have hsz : (s.extract (min (E + 1) s.size) s.size).size ≤ n := by rw [ByteArray.size_extract]; omega
   have hdl : (s.extract (min (E + 1) s.size) s.size).data.toList = s.data.toList.drop (E + 1) := by
    rw [ext_l]
    have hz := size_l s
    by_cases hc : E + 1 ≤ s.size
    ·
     rw [Nat.min_eq_left hc]
     exact List.take_of_length_le (by rw [List.length_drop]; omega)
    ·
     rw [List.drop_of_length_le (l := s.data.toList) (i := E + 1) (by omega), List.drop_of_length_le (by omega)]
     exact List.take_nil
   have hsz2 : (s.extract (min (E + 1) s.size) s.size).size ≤ s.size - 1 := by rw [ByteArray.size_extract]; omega
   by_cases ht : trimL (s.data.toList.take E) = []
   ·
    rw [if_pos ht, if_pos ht, if_pos (by omega), if_pos (by omega), List.nil_append]
    rw [ih _ acc k hsz (by omega) (by omega) (by omega), hdl]
   ·
    rw [if_neg ht, if_neg ht, if_pos (by omega), if_pos (by omega), if_pos (by omega)]
    rw [ih _ (acc ++ [toB (trimL (s.data.toList.take E))]) k hsz (by omega) (by simp; omega) (by omega), hdl]
    simp
theorem list_eval (s : ByteArray) (hs : s.size ≤ 1000000) (k : Nat) (hk : 3000100 < k) : sign_List.f k s = some ((listL (s.size + 1) s.data.toList).map toB) := by
 unfold sign_List.f
 have := list_l0 s.size s [] k (Nat.le_refl _) (by omega) (by simp; omega) (by omega)
 simpa using this
theorem listL_len : ∀ (n : Nat) (l : List UInt8), (listL n l).length ≤ n ∧ ∀ x ∈ listL n l, x.length ≤ l.length := by
 intro n
 induction n with
 | zero => intro l; simp [listL]
 | succ n ih =>
  intro l
  rw [listL]
  by_cases h : l = []
  ·
   rw [if_pos h]; simp
  ·
   rw [if_neg h]
   obtain ⟨i1, i2⟩ := ih (l.drop (endL false l + 1))
   have hd : (l.drop (endL false l + 1)).length ≤ l.length := by rw [List.length_drop]; omega
   by_cases ht : trimL (l.take (endL false l)) = []
   ·
    rw [if_pos ht, List.nil_append]
    exact ⟨by omega, fun x hx => Nat.le_trans (i2 x hx) hd⟩
   ·
    rw [if_neg ht]
    refine ⟨by simp; omega, fun x hx => ?_⟩
    rcases List.mem_append.1 hx with hx | hx
    ·
     obtain rfl := List.mem_singleton.1 hx
     refine Nat.le_trans (trimL_len _) ?_
     rw [List.length_take]
     omega
    ·
     exact Nat.le_trans (i2 x hx) hd
def elemsB (n : ByteArray) (l : List S46) : List ByteArray := (listL ((getB n l).size + 1) (getB n l).data.toList).map toB
theorem elems_eval (n : ByteArray) (l : List S46) (hn : n.size ≤ 1000) (h : SmallF l) (k : Nat) (hk : 3000100 < k) : field_List_Elements.f k l n = some (elemsB n l) := by
 unfold field_List_Elements.f
 have g : field_List_Get.f k l n = some (getB n l, decide (0 < (allV n l).length)) := get_eval n l (by omega) h.2 (by have := h.1; omega) k (by have := h.1; omega)
 rw [g]
 simp only [Option.bind_some]
 have := getB_size n l h
 rw [list_eval _ (by omega) k hk]
 rfl
theorem elems_ok (n : ByteArray) (l : List S46) (h : SmallF l) : (elemsB n l).length ≤ 100000 ∧ ∀ x ∈ elemsB n l, x.size ≤ 80000 := by
 have hg := getB_size n l h
 obtain ⟨i1, i2⟩ := listL_len ((getB n l).size + 1) (getB n l).data.toList
 unfold elemsB
 refine ⟨by rw [List.length_map]; omega, fun x hx => ?_⟩
 obtain ⟨y, hy, rfl⟩ := List.mem_map.1 hx
 have := i2 y hy
 rw [← size_l] at this
 rw [size_l, toB_list]
 omega

theorem has_eval (n w : ByteArray) (l : List S46) (hn : n.size ≤ 1000) (hw : w.size ≤ 1000) (h : SmallF l) (k : Nat) (hk : 3000100 < k) : field_List_Has.f k l n w = some ((elemsB n l).any fun e => sameB e w) := by
 unfold field_List_Has.f
 rw [elems_eval n l hn h k hk]
 simp only [Option.bind_some]
 obtain ⟨e1, e2⟩ := elems_ok n l h
 rw [if_pos ⟨by omega, by omega, fun x hx => by have := e2 x hx; omega⟩]

/-! Small letters of small letters -/
theorem lowU_idem (c : UInt8) : lowU (lowU c) = lowU c := by
 unfold lowU
 by_cases h : 65 ≤ c.toNat ∧ c.toNat ≤ 90
 ·
  rw [if_pos h]
  have e : (UInt8.ofNat (c.toNat + 32)).toNat = c.toNat + 32 := by simp; omega
  rw [if_neg (by rw [e]; omega)]
 ·
  rw [if_neg h, if_neg h]
theorem lowL_idem (l : List UInt8) : lowL (lowL l) = lowL l := by
 unfold lowL
 rw [List.map_map]
 exact List.map_congr_left fun c _ => lowU_idem c
theorem sameB_low (a b : ByteArray) : sameB (lowB a) b = sameB a b := by
 unfold sameB
 rw [lowB_list, lowL_idem]
/-! ## The reference's lists -/
def rtr (l : List UInt8) : List UInt8 := (l.reverse.dropWhile (([32, 9] : List UInt8).contains ·)).reverse
def blk (c : UInt8) : Bool := ([32, 9] : List UInt8).contains c
theorem blank_eval (c : UInt8) : pantryref01_blank.f (c.toNat : Int) = some (blk c) := by
 have e32 : (c.toNat : Int) = 32 ↔ c = 32 := u8_eq c 32
 have e9 : (c.toNat : Int) = 9 ↔ c = 9 := u8_eq c 9
 unfold pantryref01_blank.f blk
 by_cases h : c = 32
 ·
  subst h; rfl
 ·
  rw [if_neg (fun x => h (e32.1 x))]
  by_cases h2 : c = 9
  ·
   subst h2; rfl
  ·
   have hb : ((c.toNat : Int) == 9) = false := beq_eq_false_iff_ne.2 (fun x => h2 (e9.1 x))
   rw [hb]
   simp [h, h2]
theorem rtr_snoc (l : List UInt8) (x : UInt8) : rtr (l ++ [x]) = if blk x = true then rtr l else l ++ [x] := by
 unfold rtr blk
 rw [List.reverse_append, List.reverse_singleton, List.singleton_append, List.dropWhile_cons]
 by_cases h : ([32, 9] : List UInt8).contains x = true
 ·
  rw [if_pos h, if_pos h]
 ·
  rw [if_neg h, if_neg h]
  simp
theorem rtrP_cons (p : UInt8 → Bool) (l : List UInt8) (x : UInt8) : ((x :: l).reverse.dropWhile p).reverse = if (l.reverse.dropWhile p).reverse = [] ∧ p x = true then [] else x :: (l.reverse.dropWhile p).reverse := by
 rw [List.reverse_cons, List.dropWhile_append]
 cases h : l.reverse.dropWhile p with
 | nil =>
  by_cases h2 : p x = true
  ·
   simp [h2]
  ·
   simp [h2]
 | cons y ys => simp
theorem rtr_cons (l : List UInt8) (x : UInt8) : rtr (x :: l) = if rtr l = [] ∧ blk x = true then [] else x :: rtr l := rtrP_cons blk l x
theorem trimL_eq (l : List UInt8) : rtr (l.dropWhile blk) = trimL l := by
 show rtr (l.dropWhile blk) = (rtr l).dropWhile blk
 induction l with
 | nil => rfl
 | cons x l ih =>
  rw [rtr_cons, List.dropWhile_cons]
  by_cases h : blk x = true
  ·
   rw [if_pos h, ih]
   by_cases h2 : rtr l = []
   ·
    rw [if_pos ⟨h2, h⟩, h2]
   ·
    rw [if_neg (fun x => h2 x.1), List.dropWhile_cons, if_pos h]
  ·
   rw [if_neg h, rtr_cons, if_neg (fun x => h x.2), List.dropWhile_cons, if_neg h]
theorem sub_snoc (l : List UInt8) (a b : Nat) (hab : a ≤ b) (h : b < l.length) : (l.drop a).take (b + 1 - a) = (l.drop a).take (b - a) ++ [l[b]] := by
 have h1 : b - a < (l.drop a).length := by rw [List.length_drop]; omega
 have h2 := List.take_succ_eq_append_getElem h1
 rw [List.getElem_drop] at h2
 rw [show b + 1 - a = b - a + 1 by omega, h2]
 have : a + (b - a) = b := by omega
 simp only [this]
theorem ext_toB (s : ByteArray) (a b : Nat) : s.extract a b = toB ((s.data.toList.drop a).take (b - a)) := by
 rw [← ext_l, of_list]
theorem rtrim_l1 (s : ByteArray) (hs : s.size ≤ 1000000000) (a : Nat) : ∀ (d k : Nat), a + d ≤ s.size → d < k → pantryref01_Trim.l1 k s (a : Int) ((a + d : Nat) : Int) = some (toB (rtr ((s.data.toList.drop a).take d))) := by
 intro d
 induction d with
 | zero =>
  intro k hd hk
  obtain ⟨k, rfl⟩ : ∃ j, k = j + 1 := ⟨k - 1, by omega⟩
  simp only [pantryref01_Trim.l1]
  rw [if_neg (by omega), if_pos (by omega), if_pos (by omega), if_pos (by omega), ext_toB]
  simp [rtr]
 | succ d ih =>
  intro k hd hk
  obtain ⟨k, rfl⟩ : ∃ j, k = j + 1 := ⟨k - 1, by omega⟩
  have hz := size_l s
  have hlt : a + d < s.data.toList.length := by omega
  simp only [pantryref01_Trim.l1]
  have hw : wrap64 (((a + (d + 1) : Nat) : Int) - 1) = ((a + d : Nat) : Int) := by
   rw [w64n (by omega) (by omega)]
   omega
  rw [hw, if_pos (by omega), if_pos (by omega), if_pos (by omega), bt_at2 s (a + d) hlt, blank_eval]
  simp only [Option.bind_some]
  have hsn := sub_snoc s.data.toList a (a + d) (by omega) hlt
  rw [show a + d + 1 - a = d + 1 by omega, show a + d - a = d by omega] at hsn
  rw [hsn, rtr_snoc]
  by_cases h : blk s.data.toList[a + d] = true
  ·
   rw [if_pos h, if_pos h]
   exact ih k (by omega) (by omega)
  ·
   rw [if_neg h, if_neg h, if_pos (by omega), if_pos (by omega), if_pos (by omega), ext_toB, Int.toNat_natCast, Int.toNat_natCast, show a + (d + 1) - a = d + 1 by omega, hsn]
theorem rtrim_l0 (s : ByteArray) (hs : s.size ≤ 1000000000) : ∀ (d a k : Nat), a + d = s.size → 2 * d + 3 < k → pantryref01_Trim.l0 k s (a : Int) (s.size : Int) = some (toB (rtr ((s.data.toList.drop a).dropWhile blk))) := by
 intro d
 induction d with
 | zero =>
  intro a k hd hk
  obtain ⟨k, rfl⟩ : ∃ j, k = j + 1 + 1 := ⟨k - 2, by omega⟩
  have hz := size_l s
  simp only [pantryref01_Trim.l0]
  rw [if_neg (by omega)]
  simp only [pantryref01_Trim.j1]
  have := rtrim_l1 s hs a 0 k (by omega) (by omega)
  rw [show a + 0 = s.size by omega] at this
  rw [this, List.drop_of_length_le (by omega)]
  rfl
 | succ d ih =>
  intro a k hd hk
  obtain ⟨k, rfl⟩ : ∃ j, k = j + 1 + 1 := ⟨k - 2, by omega⟩
  have hz := size_l s
  have hlt : a < s.data.toList.length := by omega
  simp only [pantryref01_Trim.l0]
  rw [if_pos (by omega), if_pos (by omega), if_pos (by omega), bt_at2 s a hlt, blank_eval]
  simp only [Option.bind_some]
  rw [List.drop_eq_getElem_cons hlt, List.dropWhile_cons]
  by_cases h : blk s.data.toList[a] = true
  ·
   rw [if_pos h, if_pos h, w64n (by omega) (by omega)]
   have := ih (a + 1) (k + 1) (by omega) (by omega)
   rw [show ((a + 1 : Nat) : Int) = (a : Int) + 1 by omega] at this
   exact this
  ·
   rw [if_neg h, if_neg h]
   simp only [pantryref01_Trim.j1]
   have := rtrim_l1 s hs a (d + 1) k (by omega) (by omega)
   rw [show a + (d + 1) = s.size by omega] at this
   rw [this, ← List.drop_eq_getElem_cons hlt, List.take_of_length_le (by rw [List.length_drop]; omega)]
theorem rtrim_eval (s : ByteArray) (hs : s.size ≤ 1000000000) (k : Nat) (hk : 2 * s.size + 3 < k) : pantryref01_Trim.f k s = some (toB (trimL s.data.toList)) := by
 unfold pantryref01_Trim.f
 have := rtrim_l0 s hs s.size 0 k (by omega) hk
 rw [List.drop_zero, trimL_eq] at this
 exact this
def quotL : Bool → Bool → List UInt8 → List Bool
 | _, _, [] => []
 | q, sk, c :: l => (q || c == 34) :: (if sk = true then quotL q false l else if q = true ∧ c = 92 then quotL q true l else if c = 34 then quotL (!q) sk l else quotL q sk l)
theorem quotL_len : ∀ (l : List UInt8) (q sk : Bool), (quotL q sk l).length = l.length := by
 intro l
 induction l with
 | nil => intro q sk; rfl
 | cons c l ih =>
  intro q sk
  unfold quotL
  rw [List.length_cons, List.length_cons]
  split
  ·
   rw [ih]
  ·
   split
   ·
    rw [ih]
   ·
    split <;> rw [ih]
theorem set_take {α : Type} (l : List α) (i : Nat) (v : α) (h : i < l.length) : (l.set i v).take (i + 1) = l.take i ++ [v] := by
 have h1 : i < (l.set i v).length := by simpa using h
 rw [List.take_succ_eq_append_getElem h1, List.take_set_of_le (Nat.le_refl _)]
 simp
theorem quoted_l0 (s : ByteArray) (hs : s.size ≤ 1000000000) : ∀ (d i : Nat) (out : List Bool) (q sk : Bool) (k : Nat), i + d = s.size → out.length = s.size → 3 * d < k →
  pantryref01_quoted.l0 k s out q sk (i : Int) = some (out.take i ++ quotL q sk (s.data.toList.drop i)) := by
 intro d
 induction d with
 | zero =>
  intro i out q sk k hi ho hk
  obtain ⟨k, rfl⟩ : ∃ j, k = j + 1 := ⟨k - 1, by omega⟩
  have hz := size_l s
  simp only [pantryref01_quoted.l0]
  rw [if_neg (by omega), List.drop_of_length_le (by omega), List.take_of_length_le (by omega)]
  simp [quotL]
 | succ d ih =>
  intro i out q sk k hi ho hk
  obtain ⟨k, rfl⟩ : ∃ j, k = j + 1 + 1 + 1 := ⟨k - 3, by omega⟩
  have hz := size_l s
  have hlt : i < s.data.toList.length := by omega
  have hbt := bt_at2 s i hlt
  have e34 : ((s.data.toList[i]).toNat : Int) = 34 ↔ s.data.toList[i] = 34 := u8_eq _ 34
  have e92 : ((s.data.toList[i]).toNat : Int) = 92 ↔ s.data.toList[i] = 92 := u8_eq _ 92
  rw [List.drop_eq_getElem_cons hlt]
  have hcont : ∀ (v q' sk' : Bool) (kk : Nat), 3 * d < kk → v = (q || s.data.toList[i] == 34) → (quotL q sk (s.data.toList[i] :: s.data.toList.drop (i + 1)) = (q || s.data.toList[i] == 34) :: quotL q' sk' (s.data.toList.drop (i + 1))) →
    pantryref01_quoted.l0 kk s (out.set i v) q' sk' ((i : Int) + 1) = some (out.take i ++ quotL q sk (s.data.toList[i] :: s.data.toList.drop (i + 1))) := by
   intro v q' sk' kk hkk hv he
   have := ih (i + 1) (out.set i v) q' sk' kk (by omega) (by simpa using ho) hkk
   rw [show ((i + 1 : Nat) : Int) = (i : Int) + 1 by omega] at this
   rw [this, he, set_take _ _ _ (by omega), hv]
   simp
  have key : ∀ v : Bool, v = (q || s.data.toList[i] == 34) → pantryref01_quoted.j1 (k + 1 + 1) s (out.set i v) q sk (i : Int) = some (out.take i ++ quotL q sk (s.data.toList[i] :: s.data.toList.drop (i + 1))) := by
   intro v hv
   simp only [pantryref01_quoted.j1]
   rw [hbt, w64n (by omega) (by omega)]
   cases sk with
   | true =>
    rw [if_pos rfl]
    exact hcont v q false _ (by omega) hv (by simp [quotL])
   | false =>
    rw [if_neg (by simp)]
    have j2 : ∀ b : Bool, b = decide (q = true ∧ s.data.toList[i] = 92) → pantryref01_quoted.j2 (k + 1) s (out.set i v) q false (i : Int) b = some (out.take i ++ quotL q false (s.data.toList[i] :: s.data.toList.drop (i + 1))) := by
     intro b hb
     simp only [pantryref01_quoted.j2]
     rw [hbt, w64n (by omega) (by omega)]
     by_cases h : q = true ∧ s.data.toList[i] = 92
     ·
      rw [hb, if_pos (decide_eq_true h)]
      exact hcont v q true _ (by omega) hv (by simp only [quotL]; rw [if_neg (by simp), if_pos h])
     ·
      rw [hb, if_neg (by rw [decide_eq_false h]; simp), if_pos (by omega), if_pos (by omega)]
      by_cases h2 : s.data.toList[i] = 34
      ·
       rw [if_pos (e34.2 h2)]
       exact hcont v (!q) false _ (by omega) hv (by simp only [quotL]; rw [if_neg (by simp), if_neg h, if_pos h2])
      ·
       rw [if_neg (fun x => h2 (e34.1 x))]
       exact hcont v q false _ (by omega) hv (by simp only [quotL]; rw [if_neg (by simp), if_neg h, if_neg h2])
    cases q with
    | true =>
     rw [if_pos rfl, if_pos (by omega), if_pos (by omega)]
     refine j2 _ ?_
     by_cases h : s.data.toList[i] = 92
     ·
      rw [decide_eq_true ⟨rfl, h⟩]
      exact beq_iff_eq.2 (e92.2 h)
     ·
      rw [decide_eq_false (fun x => h x.2)]
      exact beq_eq_false_iff_ne.2 (fun x => h (e92.1 x))
    | false =>
     rw [if_neg (by simp)]
     exact j2 _ (by simp)
  simp only [pantryref01_quoted.l0]
  rw [if_pos (by omega), Int.toNat_natCast, hbt]
  cases q with
  | true =>
   rw [if_pos rfl, if_pos (by omega), if_pos (by omega)]
   exact key _ (by simp)
  | false =>
   rw [if_neg (by simp), if_pos (by omega), if_pos (by omega)]
   refine key _ ?_
   rw [Bool.false_or]
   by_cases h : s.data.toList[i] = 34
   ·
    rw [beq_iff_eq.2 h]
    exact beq_iff_eq.2 (e34.2 h)
   ·
    rw [beq_eq_false_iff_ne.2 h]
    exact beq_eq_false_iff_ne.2 (fun x => h (e34.1 x))
theorem quoted_eval (s : ByteArray) (hs : s.size ≤ 1000000000) (k : Nat) (hk : 3 * s.size < k) : pantryref01_quoted.f k s = some (quotL false false s.data.toList) := by
 unfold pantryref01_quoted.f
 rw [if_pos (by omega), if_pos (by omega)]
 have := quoted_l0 s hs s.size 0 (List.replicate s.size false) false false k (by omega) (by simp) hk
 simpa using this
def addE (cur : List UInt8) : List (List UInt8) := if trimL cur = [] then [] else [trimL cur]
def refgo : List UInt8 → List UInt8 → List Bool → List (List UInt8)
 | cur, [], _ => addE cur
 | cur, _ :: _, [] => addE cur
 | cur, c :: l, f :: fs => if c = 44 ∧ f = false then addE cur ++ refgo [] l fs else refgo (cur ++ [c]) l fs
theorem rlist_l0 (s : ByteArray) (hs : s.size ≤ 1000000000) (qs : List Bool) (hq : qs.length = s.size) : ∀ (d last i : Nat) (out : List ByteArray) (k : Nat), i + d = s.size → last ≤ i → out.length ≤ i → 2 * d + 2 * s.size + 10 < k →
  pantryref01_List.l0 k s qs out (last : Int) (i : Int) = some (out ++ (refgo ((s.data.toList.drop last).take (i - last)) (s.data.toList.drop i) (qs.drop i)).map toB) := by
 have hz := size_l s
 have trim : ∀ (last i : Nat) (k : Nat), last ≤ i → i ≤ s.size → 2 * s.size + 3 < k → pantryref01_Trim.f k (s.extract last i) = some (toB (trimL ((s.data.toList.drop last).take (i - last)))) := by
  intro last i k h1 h2 hk
  rw [rtrim_eval _ (by rw [ByteArray.size_extract]; omega) k (by rw [ByteArray.size_extract]; omega), ext_l]
 have emp : ∀ l : List UInt8, (toB l).toList = [] ↔ l = [] := fun l => by rw [ByteArray.toList_eq, toB_list]
 intro d
 induction d with
 | zero =>
  intro last i out k hi hl ho hk
  obtain ⟨k, rfl⟩ : ∃ j, k = j + 1 + 1 + 1 := ⟨k - 3, by omega⟩
  simp only [pantryref01_List.l0]
  rw [if_pos (by omega), if_neg (by omega)]
  simp only [pantryref01_List.j1]
  rw [if_neg (by simp), if_pos (by omega), if_pos (by omega), if_pos (by omega), Int.toNat_natCast, Int.toNat_natCast, trim last i _ hl (by omega) (by omega), w64n (by omega) (by omega)]
  simp only [Option.bind_some]
  rw [List.drop_of_length_le (l := s.data.toList) (i := i) (by omega)]
  simp only [refgo, addE, pantryref01_List.l0]
  by_cases h : trimL ((s.data.toList.drop last).take (i - last)) = []
  ·
   rw [if_pos ((emp _).2 h), if_neg (by omega), if_pos h]
   simp
  ·
   rw [if_neg (fun x => h ((emp _).1 x)), if_pos (by omega), if_neg (by omega), if_neg h]
   simp
 | succ d ih =>
  intro last i out k hi hl ho hk
  obtain ⟨k, rfl⟩ : ∃ j, k = j + 1 + 1 := ⟨k - 2, by omega⟩
  have hlt : i < s.data.toList.length := by omega
  have hlq : i < qs.length := by omega
  have e44 : ((s.data.toList[i]).toNat : Int) = 44 ↔ s.data.toList[i] = 44 := u8_eq _ 44
  rw [List.drop_eq_getElem_cons hlt, List.drop_eq_getElem_cons hlq]
  simp only [refgo]
  have goon : ¬ (s.data.toList[i] = 44 ∧ qs[i] = false) → pantryref01_List.j1 (k + 1) s qs out (last : Int) (i : Int) true = some (out ++ (if s.data.toList[i] = 44 ∧ qs[i] = false then addE ((s.data.toList.drop last).take (i - last)) ++ refgo [] (s.data.toList.drop (i + 1)) (qs.drop (i + 1)) else refgo ((s.data.toList.drop last).take (i - last) ++ [s.data.toList[i]]) (s.data.toList.drop (i + 1)) (qs.drop (i + 1))).map toB) := by
   intro h
   rw [if_neg h, ← sub_snoc _ _ _ hl hlt]
   simp only [pantryref01_List.j1]
   rw [if_pos trivial, w64n (by omega) (by omega)]
   have := ih last (i + 1) out k (by omega) (by omega) (by omega) (by omega)
   rw [show ((i + 1 : Nat) : Int) = (i : Int) + 1 by omega] at this
   exact this
  simp only [pantryref01_List.l0]
  rw [if_pos (by omega), if_pos (by omega), if_pos (by omega), bt_at2 s i hlt]
  by_cases h1 : s.data.toList[i] = 44
  ·
   rw [if_pos (e44.2 h1), if_pos (by omega)]
   have hr : rdOf false qs (i : Int) = qs[i] := by simp [rdOf, hlq]
   rw [hr]
   cases h2 : qs[i] with
   | true =>
    have := goon (by rw [h2]; simp)
    rw [h2] at this
    exact this
   | false =>
    rw [if_pos ⟨h1, rfl⟩]
    simp only [pantryref01_List.j1]
    rw [if_neg (by simp), if_pos (by omega), if_pos (by omega), if_pos (by omega), Int.toNat_natCast, Int.toNat_natCast, trim last i _ hl (by omega) (by omega), w64n (by omega) (by omega)]
    simp only [Option.bind_some]
    have nx : ∀ o : List ByteArray, o.length ≤ i + 1 → pantryref01_List.l0 k s qs o ((i : Int) + 1) ((i : Int) + 1) = some (o ++ (refgo [] (s.data.toList.drop (i + 1)) (qs.drop (i + 1))).map toB) := by
     intro o ho
     have := ih (i + 1) (i + 1) o k (by omega) (by omega) ho (by omega)
     rw [show ((i + 1 : Nat) : Int) = (i : Int) + 1 by omega, Nat.sub_self, List.take_zero] at this
     exact this
    unfold addE
    by_cases h : trimL ((s.data.toList.drop last).take (i - last)) = []
    ·
     rw [if_pos ((emp _).2 h), if_pos h, nx _ (by omega)]
     simp
    ·
     rw [if_neg (fun x => h ((emp _).1 x)), if_neg h, if_pos (by omega), nx _ (by simp; omega)]
     simp
  ·
   rw [if_neg (fun x => h1 (e44.1 x))]
   exact goon (fun x => h1 x.1)
theorem refgo_end : ∀ (n : Nat) (l : List UInt8) (q : Bool) (cur : List UInt8), l.length ≤ n →
  refgo cur l (quotL q false l) = addE (cur ++ l.take (endL q l)) ++ (if endL q l < l.length then refgo [] (l.drop (endL q l + 1)) (quotL false false (l.drop (endL q l + 1))) else []) := by
 intro n
 induction n with
 | zero =>
  intro l q cur h
  obtain rfl := List.eq_nil_of_length_eq_zero (by omega : l.length = 0)
  simp [refgo, endL, quotL]
 | succ n ih =>
  intro l q cur h
  match l, h with
  | [], _ => simp [refgo, endL, quotL]
  | [c], _ =>
   by_cases h1 : c = 34
   ·
    subst h1
    simp [refgo, endL, quotL]
   ·
    by_cases h2 : q = true ∧ c = 92
    ·
     obtain ⟨rfl, rfl⟩ := h2
     simp [refgo, endL, quotL]
    ·
     by_cases h3 : q = false ∧ c = 44
     ·
      obtain ⟨rfl, rfl⟩ := h3
      simp [refgo, endL, quotL]
     ·
      have h4 : ¬ (c = 44 ∧ q = false) := fun x => h3 ⟨x.2, x.1⟩
      have e : endL q [c] = 1 := by simp only [endL]; rw [if_neg h1, if_neg h2, if_neg h3]
      rw [e]
      simp only [quotL, refgo]
      rw [if_neg (by intro x; exact h4 ⟨x.1, by cases q <;> simp_all⟩)]
      simp
  | c :: d :: l, h =>
   simp only [List.length_cons] at h
   by_cases h1 : c = 34
   ·
    subst h1
    have e : endL q (34 :: d :: l) = 1 + endL (!q) (d :: l) := by simp [endL]
    have e2 : quotL q false (34 :: d :: l) = true :: quotL (!q) false (d :: l) := by simp [quotL]
    have e3 : ∀ f fs, refgo cur ((34 : UInt8) :: d :: l) (f :: fs) = refgo (cur ++ [34]) (d :: l) fs := fun f fs => by
     rw [refgo, if_neg (fun x => absurd x.1 (by decide))]
    rw [e, e2, e3, ih (d :: l) (!q) (cur ++ [34]) (by simp; omega)]
    rw [Nat.add_comm 1]
    simp only [List.take_succ_cons, List.drop_succ_cons, List.length_cons, Nat.add_lt_add_iff_right, List.append_assoc, List.singleton_append]
   ·
    by_cases h2 : q = true ∧ c = 92
    ·
     obtain ⟨rfl, rfl⟩ := h2
     have e : endL true (92 :: d :: l) = endL true l + 1 + 1 := by simp [endL]; omega
     have e2 : quotL true false (92 :: d :: l) = true :: true :: quotL true false l := by simp [quotL]
     have e3 : refgo cur ((92 : UInt8) :: d :: l) (true :: true :: quotL true false l) = refgo (cur ++ [92] ++ [d]) l (quotL true false l) := by
      rw [refgo, if_neg (fun x => absurd x.1 (by decide)), refgo, if_neg (by simp)]
     rw [e, e2, e3, ih l true (cur ++ [92] ++ [d]) (by omega)]
     rw [List.take_succ_cons, List.take_succ_cons, List.drop_succ_cons, List.drop_succ_cons, List.length_cons, List.length_cons]
     simp only [Nat.add_lt_add_iff_right, List.append_assoc, List.singleton_append, List.cons_append, List.nil_append]
    ·
     by_cases h3 : q = false ∧ c = 44
     ·
      obtain ⟨rfl, rfl⟩ := h3
      simp [refgo, endL, quotL]
     ·
      have e : endL q (c :: d :: l) = 1 + endL q (d :: l) := by rw [endL, if_neg h1, if_neg h2, if_neg h3]
      have e2 : quotL q false (c :: d :: l) = (q || c == 34) :: quotL q false (d :: l) := by
       rw [quotL, if_neg (by simp), if_neg h2, if_neg h1]
      have e3 : ∀ fs, refgo cur (c :: d :: l) ((q || c == 34) :: fs) = refgo (cur ++ [c]) (d :: l) fs := fun fs => by
       rw [refgo, if_neg (fun x => h3 ⟨by cases q <;> simp_all, x.1⟩)]
      rw [e, e2, e3, ih (d :: l) q (cur ++ [c]) (by simp; omega)]
      rw [Nat.add_comm 1]
      simp only [List.take_succ_cons, List.drop_succ_cons, List.length_cons, Nat.add_lt_add_iff_right, List.append_assoc, List.singleton_append]
theorem listL_ref : ∀ (n : Nat) (l : List UInt8), l.length ≤ n → listL (n + 1) l = refgo [] l (quotL false false l) := by
 intro n
 induction n with
 | zero =>
  intro l h
  obtain rfl := List.eq_nil_of_length_eq_zero (by omega : l.length = 0)
  rfl
 | succ n ih =>
  intro l h
  rw [listL, refgo_end (n + 1) l false [] h]
  by_cases hl : l = []
  ·
   subst hl
   rfl
  ·
   rw [if_neg hl, List.nil_append]
   have hpos : 0 < l.length := List.length_pos_iff.2 hl
   have hd : (l.drop (endL false l + 1)).length ≤ n := by rw [List.length_drop]; omega
   rw [ih _ hd]
   congr 1
   by_cases hc : endL false l < l.length
   ·
    rw [if_pos hc]
   ·
    rw [if_neg hc, List.drop_of_length_le (by omega)]
    rfl
theorem rlist_eval (s : ByteArray) (hs : s.size ≤ 1000000) (k : Nat) (hk : 4000100 < k) : pantryref01_List.f k s = some ((listL (s.size + 1) s.data.toList).map toB) := by
 unfold pantryref01_List.f
 rw [quoted_eval s (by omega) k (by omega)]
 simp only [Option.bind_some]
 have hz := size_l s
 have := rlist_l0 s (by omega) (quotL false false s.data.toList) (by rw [quotL_len]; omega) s.size 0 0 [] k (by omega) (by omega) (by simp) (by omega)
 rw [show ((0 : Nat) : Int) = 0 from rfl] at this
 rw [this, listL_ref _ _ (by omega)]
 simp

theorem SmallF_take {l : List S46} (h : SmallF l) (i : Nat) : SmallF (l.take i) := ⟨by rw [List.length_take]; have := h.1; omega, fun f hf => h.2 f (List.mem_of_mem_take hf)⟩
theorem rget_l0 (n : ByteArray) (hn : n.size ≤ 1000) (l : List S46) (h : SmallF l) : ∀ (d i k : Nat), i + d = l.length → d + 1001 < k →
  pantryref03_Get.l0 k (l.map conv) n (getB n (l.take i)) ((allV n (l.take i)).length : Int) (i : Int) = some (getB n l, ((allV n l).length : Int)) := by
 intro d
 induction d with
 | zero =>
  intro i k hi hk
  obtain ⟨k, rfl⟩ : ∃ j, k = j + 1 := ⟨k - 1, by omega⟩
  simp only [pantryref03_Get.l0]
  rw [if_neg (by rw [List.length_map]; omega), List.take_of_length_le (by omega)]
 | succ d ih =>
  intro i k hi hk
  obtain ⟨k, rfl⟩ : ∃ j, k = j + 1 := ⟨k - 1, by omega⟩
  have hlt : i < l.length := by omega
  have hll := h.1
  have hx := h.2 _ (List.getElem_mem hlt)
  have hgs := getB_size n _ (SmallF_take h i)
  have hal : (allV n (l.take i)).length ≤ i := by
   unfold allV
   rw [List.length_map]
   refine Nat.le_trans (List.length_filter_le _ _) ?_
   rw [List.length_take]
   omega
  simp only [pantryref03_Get.l0]
  rw [if_pos (by rw [List.length_map]; omega), if_pos (by omega), rd36 _ i (by rw [List.length_map]; omega), List.getElem_map]
  rw [is_eval _ _ n (by simp only [conv]; omega) (by omega) k (by simp only [conv]; omega) (by omega), w64n (x := (i : Int) + 1) (by omega) (by omega), w64n (x := ((allV n (l.take i)).length : Int) + 1) (by omega) (by omega)]
  simp only [Option.bind_some, conv]
  have := ih (i + 1) k (by omega) (by omega)
  rw [show ((i + 1 : Nat) : Int) = (i : Int) + 1 by omega, List.take_succ_eq_append_getElem hlt, allV_app] at this
  cases hs : sameB n l[i].f0 with
  | false =>
   have e : allV n [l[i]] = [] := by
    unfold allV
    rw [List.filter_cons_of_neg (by simp [isOf, hs])]
    rfl
   have e2 : getB n (l.take i ++ [l[i]]) = getB n (l.take i) := by
    unfold getB
    rw [allV_app, e, List.append_nil]
   rw [e, List.append_nil, e2] at this
   rw [if_neg (by simp)]
   exact this
  | true =>
   have e : allV n [l[i]] = [l[i].f1] := by
    unfold allV
    rw [List.filter_cons_of_pos (by simp [isOf, hs])]
    rfl
   rw [e, List.length_append, List.length_singleton, show (((allV n (l.take i)).length + 1 : Nat) : Int) = ((allV n (l.take i)).length : Int) + 1 by omega] at this
   have s2 : (⟨#[44, 32]⟩ : ByteArray).size = 2 := rfl
   have one : joinB [l[i].f1] commaB = l[i].f1.data.toList := by simp [joinB, Lib.join, List.intercalate]
   rw [if_pos rfl]
   by_cases hc : ((allV n (l.take i)).length : Int) > 0
   ·
    rw [if_pos hc, if_pos (by omega)]
    refine (if_pos (by rw [ByteArray.size_append]; omega)).trans ?_
    have e2 : getB n (l.take i ++ [l[i]]) = getB n (l.take i) ++ ⟨#[44, 32]⟩ ++ l[i].f1 := by
     have : (getB n (l.take i ++ [l[i]])).data.toList = (getB n (l.take i) ++ ⟨#[44, 32]⟩ ++ l[i].f1).data.toList := by
      rw [← ByteArray.toList_eq, getB_list, allV_app, e, joinB_app _ _ (by intro h; rw [h] at hc; simp at hc) (by simp), one]
      have r0 := getB_list n (l.take i)
      rw [ByteArray.toList_eq] at r0
      rw [← r0]
      simp
     rw [← of_list (getB n (l.take i ++ [l[i]])), this, of_list]
    rw [e2] at this
    exact this
   ·
    rw [if_neg hc]
    refine (if_pos (by omega)).trans ?_
    have h0 : allV n (l.take i) = [] := List.eq_nil_of_length_eq_zero (by omega)
    have g0 : getB n (l.take i) = ⟨#[]⟩ := by
     unfold getB
     rw [h0]
     rfl
    have e2 : getB n (l.take i ++ [l[i]]) = getB n (l.take i) ++ l[i].f1 := by
     have : (getB n (l.take i ++ [l[i]])).data.toList = (getB n (l.take i) ++ l[i].f1).data.toList := by
      rw [← ByteArray.toList_eq, getB_list, allV_app, e, h0, List.nil_append, one, g0]
      simp
     rw [← of_list (getB n (l.take i ++ [l[i]])), this, of_list]
    rw [e2] at this
    exact this
theorem rget_eval (n : ByteArray) (l : List S46) (hn : n.size ≤ 1000) (h : SmallF l) (k : Nat) (hk : 2000 < k) : pantryref03_Get.f k (l.map conv) n = some (getB n l, ((allV n l).length : Int)) := by
 unfold pantryref03_Get.f
 exact rget_l0 n hn l h l.length 0 k (by omega) (by have := h.1; omega)
theorem relems_eval (n : ByteArray) (l : List S46) (hn : n.size ≤ 1000) (h : SmallF l) (k : Nat) (hk : 4000100 < k) : pantryref03_Elements.f k (l.map conv) n = some (elemsB n l) := by
 unfold pantryref03_Elements.f
 rw [rget_eval n l hn h k (by omega)]
 simp only [Option.bind_some]
 have := getB_size n l h
 rw [rlist_eval _ (by omega) k hk]
 rfl

/-! ## What is right -/
def marksB : List UInt8 := [33, 35, 36, 37, 38, 39, 42, 43, 45, 46, 94, 95, 124, 126, 96]
def tokC (c : UInt8) : Bool := pantryref01_Sign.f (c.toNat : Int) == some true
theorem tok_fin : ∀ c : Fin 256, (pantryref01_Sign.f (c.val : Int)).isSome = true ∧ (sign_letter.f (c.val : Int)).isSome = true ∧ (pantryref01_Sign.f (c.val : Int) == some true) = ((sign_letter.f (c.val : Int) == some true) || !(decide (Lib.indexByte marksB (c.val : Int).toNat.toUInt8 < 0))) := by decide +kernel
theorem tok_u8 (c : UInt8) : pantryref01_Sign.f (c.toNat : Int) = some (tokC c) ∧ (∃ b, sign_letter.f (c.toNat : Int) = some b ∧ tokC c = (b || !(decide (Lib.indexByte marksB (c.toNat : Int).toNat.toUInt8 < 0)))) := by
 obtain ⟨h1, h2, h3⟩ := tok_fin ⟨c.toNat, c.toNat_lt⟩
 simp only at h1 h2 h3
 obtain ⟨a, ha⟩ := Option.isSome_iff_exists.1 h1
 obtain ⟨b, hb⟩ := Option.isSome_iff_exists.1 h2
 have e : ∀ x : Bool, (some x == some true) = x := fun x => by cases x <;> rfl
 unfold tokC
 rw [ha, hb, e, e] at h3
 rw [ha, e]
 exact ⟨rfl, b, hb, h3⟩
def tokV (s : ByteArray) : Bool := s.data.toList.all tokC && decide (0 < s.size)
theorem ne_nil_iff (s : ByteArray) : (s.toList != []) = decide (0 < s.size) := by
 rw [ByteArray.toList_eq, size_l]
 cases s.data.toList <;> simp
theorem token_l0 (s : ByteArray) (hs : s.size ≤ 1000000000) : ∀ (d i k : Nat), i + d = s.size → d < k → sign_Token.l0 k s (s.size : Int) (i : Int) = some ((s.data.toList.drop i).all tokC && decide (0 < s.size)) := by
 intro d
 induction d with
 | zero =>
  intro i k hi hk
  obtain ⟨k, rfl⟩ : ∃ j, k = j + 1 := ⟨k - 1, by omega⟩
  have hz := size_l s
  simp only [sign_Token.l0]
  rw [if_neg (by omega), List.drop_of_length_le (by omega), ne_nil_iff]
  simp
 | succ d ih =>
  intro i k hi hk
  obtain ⟨k, rfl⟩ : ∃ j, k = j + 1 := ⟨k - 1, by omega⟩
  have hz := size_l s
  have hlt : i < s.data.toList.length := by omega
  obtain ⟨_, b, hb, ht⟩ := tok_u8 s.data.toList[i]
  simp only [sign_Token.l0]
  rw [if_pos (by omega), if_pos (by omega), if_pos (by omega), bt_at2 s i hlt, hb, w64n (by omega) (by omega)]
  simp only [Option.bind_some]
  have := ih (i + 1) k (by omega) (by omega)
  rw [show ((i + 1 : Nat) : Int) = (i : Int) + 1 by omega] at this
  rw [List.drop_eq_getElem_cons hlt, List.all_cons, this]
  cases b with
  | true =>
   rw [if_pos rfl, ht]
   simp
  | false =>
   rw [if_neg (by simp)]
   unfold strings_IndexByte.f
   simp only [Option.bind_some]
   rw [Bool.false_or] at ht
   by_cases hc : Lib.indexByte marksB ((s.data.toList[i]).toNat : Int).toNat.toUInt8 < 0
   ·
    rw [ht, decide_eq_true hc]
    refine (if_pos hc).trans ?_
    simp
   ·
    rw [ht, decide_eq_false hc]
    refine (if_neg hc).trans ?_
    simp
theorem token_eval (s : ByteArray) (hs : s.size ≤ 1000000000) (k : Nat) (hk : s.size < k) : sign_Token.f k s = some (tokV s) := by
 unfold sign_Token.f
 have := token_l0 s hs s.size 0 k (by omega) hk
 exact this
theorem rtoken_l0 (s : ByteArray) (hs : s.size ≤ 1000000000) : ∀ (d i k : Nat), i + d = s.size → d < k → pantryref01_Token.l0 k s (i : Int) = some ((s.data.toList.drop i).all tokC && decide (0 < s.size)) := by
 intro d
 induction d with
 | zero =>
  intro i k hi hk
  obtain ⟨k, rfl⟩ : ∃ j, k = j + 1 := ⟨k - 1, by omega⟩
  have hz := size_l s
  simp only [pantryref01_Token.l0]
  rw [if_neg (by omega), List.drop_of_length_le (by omega), List.all_nil, Bool.true_and]
  congr 1
  rw [decide_eq_decide]
  omega
 | succ d ih =>
  intro i k hi hk
  obtain ⟨k, rfl⟩ : ∃ j, k = j + 1 := ⟨k - 1, by omega⟩
  have hz := size_l s
  have hlt : i < s.data.toList.length := by omega
  simp only [pantryref01_Token.l0]
  rw [if_pos (by omega), if_pos (by omega), bt_at2 s i hlt, (tok_u8 _).1, w64n (by omega) (by omega)]
  simp only [Option.bind_some]
  have := ih (i + 1) k (by omega) (by omega)
  rw [show ((i + 1 : Nat) : Int) = (i : Int) + 1 by omega] at this
  rw [List.drop_eq_getElem_cons hlt, List.all_cons, this]
  cases tokC s.data.toList[i] with
  | true => rw [if_pos rfl]; simp
  | false => rw [if_neg (by simp)]; simp
theorem rtoken_eval (s : ByteArray) (hs : s.size ≤ 1000000000) (k : Nat) (hk : s.size < k) : pantryref01_Token.f k s = some (tokV s) := by
 unfold pantryref01_Token.f
 exact rtoken_l0 s hs s.size 0 k (by omega) hk

theorem rhas_l0 (w : ByteArray) (hw : w.size ≤ 1000) (es : List ByteArray) (he : es.length ≤ 1000000) (hx : ∀ x ∈ es, x.size ≤ 100000) : ∀ (d i k : Nat), i + d = es.length → d + 100001 < k → pantryref03_Has.l0 k w es (i : Int) = some ((es.drop i).any fun e => sameB e w) := by
 intro d
 induction d with
 | zero =>
  intro i k hi hk
  obtain ⟨k, rfl⟩ : ∃ j, k = j + 1 := ⟨k - 1, by omega⟩
  simp only [pantryref03_Has.l0]
  rw [if_neg (by omega), List.drop_of_length_le (by omega)]
  rfl
 | succ d ih =>
  intro i k hi hk
  obtain ⟨k, rfl⟩ : ∃ j, k = j + 1 := ⟨k - 1, by omega⟩
  have hlt : i < es.length := by omega
  have hsz := hx _ (List.getElem_mem hlt)
  have := ih (i + 1) k (by omega) (by omega)
  rw [show ((i + 1 : Nat) : Int) = (i : Int) + 1 by omega] at this
  simp only [pantryref03_Has.l0]
  rw [if_pos (by omega), if_pos (by omega), rdB es i hlt, rlow_eval _ (by omega) k (by omega), rlow_eval w (by omega) k (by omega), w64n (by omega) (by omega), this, List.drop_eq_getElem_cons hlt, List.any_cons]
  simp only [Option.bind_some]
  rw [ByteArray.toList_eq, ByteArray.toList_eq, lowB_list, lowB_list]
  unfold sameB
  by_cases hc : lowL es[i].data.toList = lowL w.data.toList
  ·
   rw [if_pos hc, beq_iff_eq.2 hc]; rfl
  ·
   rw [if_neg hc, beq_eq_false_iff_ne.2 hc, Bool.false_or]
theorem rhas_eval (n w : ByteArray) (l : List S46) (hn : n.size ≤ 1000) (hw : w.size ≤ 1000) (h : SmallF l) (k : Nat) (hk : 4000100 < k) : pantryref03_Has.f k (l.map conv) n w = some ((elemsB n l).any fun e => sameB e w) := by
 unfold pantryref03_Has.f
 rw [relems_eval n l hn h k hk]
 simp only [Option.bind_some]
 obtain ⟨e1, e2⟩ := elems_ok n l h
 have := rhas_l0 w hw (elemsB n l) (by omega) (fun x hx => by have := e2 x hx; omega) (elemsB n l).length 0 k (by omega) (by omega)
 simpa using this

/-! ## Quoted texts and numbers -/
def unqP : List UInt8 → Option (List UInt8)
 | [] => none
 | [c] => if c = 34 then some [] else none
 | c :: d :: l => if c = 34 then none else if c = 92 then (unqP l).map (d :: ·) else (unqP (d :: l)).map (c :: ·)
def unqR : List UInt8 → Option (List UInt8)
 | [] => some []
 | [c] => if c = 34 then none else if c = 92 then none else some [c]
 | c :: d :: l => if c = 34 then none else if c = 92 then (unqR l).map (d :: ·) else (unqR (d :: l)).map (c :: ·)
def numsOf (l : List UInt8) : List Int := l.map fun c => (c.toNat : Int)
def resU (acc : List Int) : Option (List UInt8) → ByteArray × Bool
 | none => (⟨#[]⟩, false)
 | some r => (strOfNums (acc ++ numsOf r), true)
theorem resU_cons (acc : List Int) (c : UInt8) (o : Option (List UInt8)) : resU acc (o.map (c :: ·)) = resU (acc ++ [(c.toNat : Int)]) o := by
 cases o with
 | none => rfl
 | some r => simp [resU, numsOf]
theorem unqP_last : ∀ (n : Nat) (l : List UInt8), l.length ≤ n → ∀ x : UInt8, unqP (l ++ [x]) = if x = 34 then unqR l else none := by
 intro n
 induction n with
 | zero =>
  intro l h x
  obtain rfl := List.eq_nil_of_length_eq_zero (by omega : l.length = 0)
  simp [unqP, unqR]
 | succ n ih =>
  intro l h x
  match l, h with
  | [], _ => simp [unqP, unqR]
  | [c], _ =>
   have e : [c] ++ [x] = [c, x] := rfl
   rw [e, unqP, unqR]
   by_cases h1 : c = 34
   ·
    rw [if_pos h1, if_pos h1]; split <;> rfl
   ·
    rw [if_neg h1, if_neg h1]
    by_cases h2 : c = 92
    ·
     rw [if_pos h2, if_pos h2]; simp [unqP]
    ·
     rw [if_neg h2, if_neg h2, unqP]
     by_cases h3 : x = 34
     ·
      rw [if_pos h3, if_pos h3]; rfl
     ·
      rw [if_neg h3, if_neg h3]; rfl
  | c :: d :: l, h =>
   simp only [List.length_cons] at h
   have i1 := ih l (by omega) x
   have i2 := ih (d :: l) (by simp; omega) x
   rw [List.cons_append, List.cons_append, unqP, unqR]
   rw [List.cons_append] at i2
   by_cases h1 : c = 34
   ·
    rw [if_pos h1, if_pos h1]; split <;> rfl
   ·
    rw [if_neg h1, if_neg h1]
    by_cases h2 : c = 92
    ·
     rw [if_pos h2, if_pos h2, i1]; split <;> rfl
    ·
     rw [if_neg h2, if_neg h2, i2]; split <;> rfl
theorem unqP_len : ∀ (n : Nat) (l : List UInt8), l.length ≤ n → ∀ r, unqP l = some r → r.length ≤ l.length := by
 intro n
 induction n with
 | zero =>
  intro l h r hr
  obtain rfl := List.eq_nil_of_length_eq_zero (by omega : l.length = 0)
  cases hr
 | succ n ih =>
  intro l h r hr
  match l, h with
  | [], _ => cases hr
  | [c], _ =>
   rw [unqP] at hr
   split at hr
   ·
    obtain rfl := Option.some.inj hr; simp
   ·
    cases hr
  | c :: d :: l, h =>
   simp only [List.length_cons] at h
   rw [unqP] at hr
   split at hr
   ·
    cases hr
   ·
    split at hr
    ·
     obtain ⟨r', hr', rfl⟩ := Option.map_eq_some_iff.1 hr
     have := ih l (by omega) r' hr'
     simp only [List.length_cons]
     omega
    ·
     obtain ⟨r', hr', rfl⟩ := Option.map_eq_some_iff.1 hr
     have := ih (d :: l) (by simp; omega) r' hr'
     simp only [List.length_cons] at this ⊢
     omega
theorem unq_l0 (s : ByteArray) (hs : s.size ≤ 1000000) : ∀ (d i k : Nat) (acc : List Int), i + d = s.size → 1 ≤ i → acc.length ≤ i → d < k → sign_Unquote.l0 k s acc (i : Int) = some (resU acc (unqP (s.data.toList.drop i))) := by
 have hz := size_l s
 intro d
 induction d using Nat.strongRecOn with
 | _ d ih =>
  intro i k acc hi h1 ha hk
  obtain ⟨k, rfl⟩ : ∃ j, k = j + 1 := ⟨k - 1, by omega⟩
  simp only [sign_Unquote.l0]
  cases d with
  | zero =>
   rw [if_neg (by omega), List.drop_of_length_le (by omega)]
   rfl
  | succ d =>
   have hlt : i < s.data.toList.length := by omega
   have e34 : ((s.data.toList[i]).toNat : Int) = 34 ↔ s.data.toList[i] = 34 := u8_eq _ 34
   have e92 : ((s.data.toList[i]).toNat : Int) = 92 ↔ s.data.toList[i] = 92 := u8_eq _ 92
   rw [if_pos (by omega), if_pos (by omega), bt_at2 s i hlt, w64n (x := (s.size : Int) - 1) (by omega) (by omega), w64n (x := (i : Int) + 1) (by omega) (by omega)]
   have n1 : ∀ acc' : List Int, acc'.length ≤ i + 1 → sign_Unquote.l0 k s acc' ((i : Int) + 1) = some (resU acc' (unqP (s.data.toList.drop (i + 1)))) := fun acc' h => by
    have := ih d (by omega) (i + 1) k acc' (by omega) (by omega) h (by omega)
    rwa [show ((i + 1 : Nat) : Int) = (i : Int) + 1 by omega] at this
   by_cases c1 : s.data.toList[i] = 34
   ·
    rw [if_pos (e34.2 c1)]
    rcases Nat.eq_zero_or_pos d with hd | hd
    ·
     rw [if_neg (by omega), List.drop_eq_getElem_cons hlt, List.drop_of_length_le (i := i + 1) (by omega), unqP, if_pos c1]
     simp [resU, numsOf]
    ·
     have hlt2 : i + 1 < s.data.toList.length := by omega
     rw [if_pos (by omega), List.drop_eq_getElem_cons hlt, List.drop_eq_getElem_cons hlt2, unqP, if_pos c1]
     rfl
   ·
    rw [if_neg (fun x => c1 (e34.1 x))]
    by_cases c2 : s.data.toList[i] = 92
    ·
     rw [if_pos (e92.2 c2)]
     rcases Nat.eq_zero_or_pos d with hd | hd
     ·
      rw [if_pos (by omega), List.drop_eq_getElem_cons hlt, List.drop_of_length_le (i := i + 1) (by omega), unqP, if_neg c1]
      rfl
     ·
      have hlt2 : i + 1 < s.data.toList.length := by omega
      have hb := bt_at2 s (i + 1) hlt2
      rw [show ((i + 1 : Nat) : Int) = (i : Int) + 1 by omega] at hb
      have := ih (d - 1) (by omega) (i + 2) k (acc ++ [((s.data.toList[i + 1]).toNat : Int)]) (by omega) (by omega) (by simp; omega) (by omega)
      rw [show ((i + 2 : Nat) : Int) = (i : Int) + 1 + 1 by omega] at this
      rw [if_neg (by omega), if_pos (by omega), if_pos (by omega), if_pos (by omega), hb, w64n (by omega) (by omega), this, List.drop_eq_getElem_cons hlt, List.drop_eq_getElem_cons hlt2, unqP, if_neg c1, if_pos c2, resU_cons]
    ·
     rw [if_neg (fun x => c2 (e92.1 x)), if_pos (by omega), n1 _ (by simp; omega), List.drop_eq_getElem_cons hlt]
     rcases Nat.eq_zero_or_pos d with hd | hd
     ·
      have e : unqP [s.data.toList[i]] = none := by rw [unqP, if_neg c1]
      rw [List.drop_of_length_le (i := i + 1) (by omega), e]
      rfl
     ·
      have hlt2 : i + 1 < s.data.toList.length := by omega
      rw [List.drop_eq_getElem_cons hlt2, unqP, if_neg c1, if_neg c2, resU_cons]
theorem runq_l0 (s : ByteArray) (hs : s.size ≤ 1000000) : ∀ (d i k : Nat) (acc : List Int), i + d = s.size → acc.length ≤ i → d < k → pantryref01_Unquote.l0 k acc s (i : Int) = some (resU acc (unqR (s.data.toList.drop i))) := by
 have hz := size_l s
 intro d
 induction d using Nat.strongRecOn with
 | _ d ih =>
  intro i k acc hi ha hk
  obtain ⟨k, rfl⟩ : ∃ j, k = j + 1 := ⟨k - 1, by omega⟩
  simp only [pantryref01_Unquote.l0]
  cases d with
  | zero =>
   rw [if_neg (by omega), List.drop_of_length_le (by omega)]
   simp [resU, unqR, numsOf]
  | succ d =>
   have hlt : i < s.data.toList.length := by omega
   have e34 : ((s.data.toList[i]).toNat : Int) = 34 ↔ s.data.toList[i] = 34 := u8_eq _ 34
   have e92 : ((s.data.toList[i]).toNat : Int) = 92 ↔ s.data.toList[i] = 92 := u8_eq _ 92
   rw [if_pos (by omega), if_pos (by omega), bt_at2 s i hlt, w64n (x := (i : Int) + 1) (by omega) (by omega)]
   have n1 : ∀ acc' : List Int, acc'.length ≤ i + 1 → pantryref01_Unquote.l0 k acc' s ((i : Int) + 1) = some (resU acc' (unqR (s.data.toList.drop (i + 1)))) := fun acc' h => by
    have := ih d (by omega) (i + 1) k acc' (by omega) h (by omega)
    rwa [show ((i + 1 : Nat) : Int) = (i : Int) + 1 by omega] at this
   by_cases c1 : s.data.toList[i] = 34
   ·
    rw [if_pos (e34.2 c1), List.drop_eq_getElem_cons hlt]
    cases s.data.toList.drop (i + 1) <;> rw [unqR, if_pos c1] <;> rfl
   ·
    rw [if_neg (fun x => c1 (e34.1 x))]
    by_cases c2 : s.data.toList[i] = 92
    ·
     rw [if_pos (e92.2 c2)]
     rcases Nat.eq_zero_or_pos d with hd | hd
     ·
      rw [if_pos (by omega), List.drop_eq_getElem_cons hlt, List.drop_of_length_le (i := i + 1) (by omega), unqR, if_neg c1, if_pos c2]
      rfl
     ·
      have hlt2 : i + 1 < s.data.toList.length := by omega
      have hb := bt_at2 s (i + 1) hlt2
      rw [show ((i + 1 : Nat) : Int) = (i : Int) + 1 by omega] at hb
      have := ih (d - 1) (by omega) (i + 2) k (acc ++ [((s.data.toList[i + 1]).toNat : Int)]) (by omega) (by simp; omega) (by omega)
      rw [show ((i + 2 : Nat) : Int) = (i : Int) + 1 + 1 by omega] at this
      rw [if_neg (by omega), if_pos (by omega), if_pos (by omega), if_pos (by omega), hb, w64n (by omega) (by omega), this, List.drop_eq_getElem_cons hlt, List.drop_eq_getElem_cons hlt2, unqR, if_neg c1, if_pos c2, resU_cons]
    ·
     rw [if_neg (fun x => c2 (e92.1 x)), if_pos (by omega), n1 _ (by simp; omega), List.drop_eq_getElem_cons hlt]
     rcases Nat.eq_zero_or_pos d with hd | hd
     ·
      have e : unqR [s.data.toList[i]] = some [s.data.toList[i]] := by rw [unqR, if_neg c1, if_neg c2]
      rw [List.drop_of_length_le (i := i + 1) (by omega), e]
      simp [resU, unqR, numsOf]
     ·
      have hlt2 : i + 1 < s.data.toList.length := by omega
      rw [List.drop_eq_getElem_cons hlt2, unqR, if_neg c1, if_neg c2, resU_cons]
def unqV (s : ByteArray) : ByteArray × Bool := if tokV s = true then (s, true) else if s.size < 2 then (⟨#[]⟩, false) else if bt s 0 = 34 then resU [] (unqP (s.data.toList.drop 1)) else (⟨#[]⟩, false)
theorem unq_eval (s : ByteArray) (hs : s.size ≤ 1000000) (k : Nat) (hk : 2000000 < k) : sign_Unquote.f k s = some (unqV s) := by
 unfold sign_Unquote.f unqV
 obtain ⟨k, rfl⟩ : ∃ j, k = j + 1 := ⟨k - 1, by omega⟩
 rw [token_eval s (by omega) _ (by omega)]
 simp only [Option.bind_some]
 have jt : sign_Unquote.j0 (k + 1) s true = some (⟨#[]⟩, false) := by simp [sign_Unquote.j0]
 cases tokV s with
 | true => rw [if_pos rfl, if_pos rfl]
 | false =>
  rw [if_neg (show ¬ (false = true) by simp), if_neg (show ¬ (false = true) by simp)]
  by_cases h2 : s.size < 2
  ·
   rw [if_pos (by omega), if_pos h2, jt]
  ·
   rw [if_neg (by omega), if_neg h2, if_pos (by omega)]
   by_cases h3 : bt s 0 = 34
   ·
    rw [if_pos h3, h3]
    simp only [sign_Unquote.j0]
    rw [if_neg (by simp)]
    have := unq_l0 s hs (s.size - 1) 1 k [] (by omega) (by omega) (by simp) (by omega)
    exact this
   ·
    rw [if_neg h3, bne_iff_ne.2 h3, jt]
theorem runq_eval (s : ByteArray) (hs : s.size ≤ 1000000) (k : Nat) (hk : 2000000 < k) : pantryref01_Unquote.f k s = some (unqV s) := by
 unfold pantryref01_Unquote.f unqV
 obtain ⟨k, rfl⟩ : ∃ j, k = j + 1 := ⟨k - 1, by omega⟩
 have hz := size_l s
 rw [rtoken_eval s (by omega) _ (by omega)]
 simp only [Option.bind_some]
 have jt : pantryref01_Unquote.j0 (k + 1) s true = some (⟨#[]⟩, false) := by simp [pantryref01_Unquote.j0]
 cases tokV s with
 | true => rw [if_pos rfl, if_pos rfl]
 | false =>
  rw [if_neg (show ¬ (false = true) by simp), if_neg (show ¬ (false = true) by simp)]
  by_cases h2 : s.size < 2
  ·
   rw [if_pos (by omega), if_pos h2, jt]
  ·
   rw [if_neg (by omega), if_neg h2, if_pos (by omega)]
   by_cases h3 : bt s 0 = 34
   ·
    rw [if_pos h3, if_pos h3, w64n (by omega) (by omega), if_pos (by omega), if_pos (by omega)]
    have hlt : s.size - 1 < s.data.toList.length := by omega
    have hb := bt_at2 s (s.size - 1) hlt
    rw [show ((s.size - 1 : Nat) : Int) = (s.size : Int) - 1 by omega] at hb
    have hin : s.data.toList.drop 1 = ((s.data.toList.drop 1).take (s.size - 2)) ++ [s.data.toList[s.size - 1]] := by
     have := sub_snoc s.data.toList 1 (s.size - 1) (by omega) hlt
     rw [show s.size - 1 + 1 - 1 = s.size - 1 by omega, show s.size - 1 - 1 = s.size - 2 by omega] at this
     rw [← this, List.take_of_length_le (by rw [List.length_drop]; omega)]
    have hP := unqP_last _ ((s.data.toList.drop 1).take (s.size - 2)) (Nat.le_refl _) s.data.toList[s.size - 1]
    rw [← hin] at hP
    rw [hP, hb]
    have e34 : ((s.data.toList[s.size - 1]).toNat : Int) = 34 ↔ s.data.toList[s.size - 1] = 34 := u8_eq _ 34
    by_cases h4 : s.data.toList[s.size - 1] = 34
    ·
     rw [if_pos h4, e34.2 h4]
     simp only [pantryref01_Unquote.j0]
     rw [if_neg (by simp), w64n (by omega) (by omega), if_pos (by omega), if_pos (by omega)]
     have hsz : (s.extract 1 ((s.size : Int) - 1).toNat).size = s.size - 2 := by rw [ByteArray.size_extract]; omega
     have := runq_l0 (s.extract 1 ((s.size : Int) - 1).toNat) (by omega) (s.size - 2) 0 k [] (by omega) (by simp) (by omega)
     rw [List.drop_zero, ext_l, show ((s.size : Int) - 1).toNat - 1 = s.size - 2 by omega] at this
     exact this
    ·
     rw [if_neg h4, bne_iff_ne.2 (fun x => h4 (e34.1 x)), jt]
     rfl
   ·
    rw [if_neg h3, if_neg h3, jt]
theorem unqV_size (s : ByteArray) : (unqV s).1.size ≤ s.size := by
 unfold unqV
 split
 ·
  exact Nat.le_refl _
 ·
  split
  ·
   exact Nat.zero_le _
  ·
   split
   ·
    cases h : unqP (s.data.toList.drop 1) with
    | none => exact Nat.zero_le _
    | some r =>
     have := unqP_len _ _ (Nat.le_refl _) r h
     rw [List.length_drop, ← size_l] at this
     have e : (resU [] (some r)).1.size = r.length := by simp [resU, strOfNums, numsOf, ByteArray.size]
     rw [e]
     omega
   ·
    exact Nat.zero_le _
def numP : Int → List UInt8 → Option Int
 | n, [] => some n
 | n, c :: l => if c.toNat < 48 ∨ c.toNat > 57 then none else numP (mn (10 * n + ((c.toNat : Int) - 48)) 2147483648) l
def numR : Int → List UInt8 → Option Int
 | n, [] => some n
 | n, c :: l => if c.toNat < 48 ∨ c.toNat > 57 then none else numR (if n < 2147483648 then 10 * n + ((c.toNat : Int) - 48) else n) l
theorem num_same : ∀ (l : List UInt8) (n : Int), 0 ≤ n → numP (mn n 2147483648) l = (numR n l).map fun v => mn v 2147483648 := by
 intro l
 induction l with
 | nil => intro n _; rfl
 | cons c l ih =>
  intro n hn
  rw [numP, numR]
  by_cases h : c.toNat < 48 ∨ c.toNat > 57
  ·
   rw [if_pos h, if_pos h]; rfl
  ·
   rw [if_neg h, if_neg h]
   by_cases h2 : n < 2147483648
   ·
    rw [if_pos h2, ← ih _ (by omega)]
    have : mn n 2147483648 = n := by unfold mn; rw [if_neg (by omega)]
    rw [this]
   ·
    rw [if_neg h2, ← ih n hn]
    congr 1
    have e1 : mn n 2147483648 = 2147483648 := by unfold mn; split <;> omega
    rw [e1]
    unfold mn
    rw [if_pos (by omega)]
theorem numP_range : ∀ (l : List UInt8) (n : Int), 0 ≤ n → ∀ v, numP n l = some v → 0 ≤ v := by
 intro l
 induction l with
 | nil => intro n hn v hv; obtain rfl := Option.some.inj hv; exact hn
 | cons c l ih =>
  intro n hn v hv
  rw [numP] at hv
  split at hv
  ·
   cases hv
  ·
   refine ih _ ?_ v hv
   unfold mn
   split <;> omega
def numV (s : ByteArray) : Int × Bool := match numP 0 s.data.toList with
 | none => (0, false)
 | some v => (v, decide (0 < s.size))
theorem num_l0 (s : ByteArray) (hs : s.size ≤ 1000000) : ∀ (d i k : Nat) (n : Int), i + d = s.size → 0 ≤ n → n ≤ 2147483648 → d < k →
  sign_Number.l0 k s n (s.size : Int) (i : Int) = some (match numP n (s.data.toList.drop i) with | none => (0, false) | some v => (v, decide (0 < s.size))) := by
 have hz := size_l s
 intro d
 induction d with
 | zero =>
  intro i k n hi h0 h1 hk
  obtain ⟨k, rfl⟩ : ∃ j, k = j + 1 := ⟨k - 1, by omega⟩
  simp only [sign_Number.l0]
  rw [if_neg (by omega), List.drop_of_length_le (by omega), ne_nil_iff]
  rfl
 | succ d ih =>
  intro i k n hi h0 h1 hk
  obtain ⟨k, rfl⟩ : ∃ j, k = j + 1 := ⟨k - 1, by omega⟩
  have hlt : i < s.data.toList.length := by omega
  simp only [sign_Number.l0]
  rw [if_pos (by omega), if_pos (by omega), if_pos (by omega), bt_at2 s i hlt, List.drop_eq_getElem_cons hlt, numP]
  by_cases c1 : ((s.data.toList[i]).toNat : Int) < 48
  ·
   rw [if_pos c1, if_pos (by omega)]
  ·
   rw [if_neg c1]
   by_cases c2 : ((s.data.toList[i]).toNat : Int) > 57
   ·
    rw [if_pos c2, if_pos (by omega)]
   ·
    have hm : 0 ≤ mn (10 * n + (((s.data.toList[i]).toNat : Int) - 48)) 2147483648 ∧ mn (10 * n + (((s.data.toList[i]).toNat : Int) - 48)) 2147483648 ≤ 2147483648 := by unfold mn; split <;> omega
    rw [if_neg c2, if_neg (by omega), w64n (x := 10 * n) (by omega) (by omega), show (((s.data.toList[i]).toNat : Int) - 48) % 256 = ((s.data.toList[i]).toNat : Int) - 48 by omega, w64n (x := 10 * n + _) (by omega) (by omega), w64n (by omega) (by omega)]
    have := ih (i + 1) k _ (by omega) hm.1 hm.2 (by omega)
    rwa [show ((i + 1 : Nat) : Int) = (i : Int) + 1 by omega] at this
theorem num_eval (s : ByteArray) (hs : s.size ≤ 1000000) (k : Nat) (hk : 1000000 < k) : sign_Number.f k s = some (numV s) := by
 unfold sign_Number.f
 exact num_l0 s hs s.size 0 k 0 (Nat.zero_add _) (by omega) (by omega) (by omega)
theorem rnum_l0 (s : ByteArray) (hs : s.size ≤ 1000000) : ∀ (d i k : Nat) (n : Int), i + d = s.size → 0 ≤ n → n ≤ 21474836490 → 2 * d < k →
  pantryref01_Number.l0 k s n (i : Int) = some (match numR n (s.data.toList.drop i) with | none => (0, false) | some v => (mn v 2147483648, decide (0 < s.size))) := by
 have hz := size_l s
 intro d
 induction d with
 | zero =>
  intro i k n hi h0 h1 hk
  obtain ⟨k, rfl⟩ : ∃ j, k = j + 1 := ⟨k - 1, by omega⟩
  have ed : decide ((s.size : Int) > 0) = decide (0 < s.size) := by rw [decide_eq_decide]; omega
  simp only [pantryref01_Number.l0]
  rw [if_neg (by omega), List.drop_of_length_le (by omega), ed]
  simp only [numR]
  unfold mn
  by_cases h : n > 2147483648
  ·
   rw [if_pos h, if_pos (by omega)]
  ·
   rw [if_neg h, if_neg (by omega)]
 | succ d ih =>
  intro i k n hi h0 h1 hk
  obtain ⟨k, rfl⟩ : ∃ j, k = j + 1 + 1 := ⟨k - 2, by omega⟩
  have hlt : i < s.data.toList.length := by omega
  have jt : ∀ n i, pantryref01_Number.j1 (k + 1) s n i true = some (0, false) := fun n i => by simp [pantryref01_Number.j1]
  simp only [pantryref01_Number.l0]
  rw [if_pos (by omega), if_pos (by omega), bt_at2 s i hlt, List.drop_eq_getElem_cons hlt, numR]
  by_cases c1 : ((s.data.toList[i]).toNat : Int) < 48
  ·
   rw [if_pos c1, if_pos (by omega), jt]
  ·
   rw [if_neg c1]
   by_cases c2 : ((s.data.toList[i]).toNat : Int) > 57
   ·
    rw [decide_eq_true c2, if_pos (by omega), jt]
   ·
    rw [decide_eq_false c2, if_neg (by omega)]
    simp only [pantryref01_Number.j1]
    have nx : ∀ n', 0 ≤ n' → n' ≤ 21474836490 → pantryref01_Number.l0 k s n' ((i : Int) + 1) = some (match numR n' (s.data.toList.drop (i + 1)) with | none => (0, false) | some v => (mn v 2147483648, decide (0 < s.size))) := fun n' h0 h1 => by
     have := ih (i + 1) k n' (by omega) h0 h1 (by omega)
     rwa [show ((i + 1 : Nat) : Int) = (i : Int) + 1 by omega] at this
    rw [if_neg (by simp), bt_at2 s i hlt, w64n (x := (i : Int) + 1) (by omega) (by omega)]
    by_cases c3 : n < 2147483648
    ·
     rw [if_pos c3, if_pos c3, if_pos (by omega), if_pos (by omega), w64n (x := 10 * n) (by omega) (by omega), show (((s.data.toList[i]).toNat : Int) - 48) % 256 = ((s.data.toList[i]).toNat : Int) - 48 by omega, w64n (by omega) (by omega)]
     exact nx _ (by omega) (by omega)
    ·
     rw [if_neg c3, if_neg c3]
     exact nx _ h0 h1
theorem rnum_eval (s : ByteArray) (hs : s.size ≤ 1000000) (k : Nat) (hk : 2000000 < k) : pantryref01_Number.f k s = some (numV s) := by
 unfold pantryref01_Number.f numV
 have := rnum_l0 s hs s.size 0 k 0 (Nat.zero_add _) (by omega) (by omega) (by omega)
 rw [List.drop_zero] at this
 have e0 : mn 0 2147483648 = 0 := by decide
 have h := num_same s.data.toList 0 (by omega)
 rw [e0] at h
 refine Eq.trans this ?_
 rw [h]
 cases numR 0 s.data.toList <;> rfl
def secV (arg : ByteArray) (other : Int) : Int := if (unqV arg).2 = true then (if (numV (unqV arg).1).2 = true then (numV (unqV arg).1).1 else other) else other
theorem sec_eval (arg : ByteArray) (h : arg.size ≤ 1000000) (other : Int) (k : Nat) (hk : 2000000 < k) : control_seconds.f k arg other = some (secV arg other) := by
 have hz := unqV_size arg
 unfold control_seconds.f secV
 rw [unq_eval arg h k hk]
 simp only [Option.bind_some]
 rw [num_eval _ (by omega) k (by omega)]
 simp only [Option.bind_some]
 split
 ·
  split <;> rfl
 ·
  rfl
theorem rsec_eval (arg : ByteArray) (h : arg.size ≤ 1000000) (other : Int) (k : Nat) (hk : 2000000 < k) : pantryref04_seconds.f k arg other = some (secV arg other) := by
 have hz := unqV_size arg
 unfold pantryref04_seconds.f secV
 rw [runq_eval arg h k hk]
 simp only [Option.bind_some]
 rw [rnum_eval _ (by omega) k hk]
 simp only [Option.bind_some]
 split
 ·
  split <;> rfl
 ·
  rfl
theorem sec_range (arg : ByteArray) (other : Int) (ho : 0 ≤ other) : 0 ≤ secV arg other := by
 unfold secV
 split
 ·
  split
  ·
   unfold numV
   cases h : numP 0 (unqV arg).1.data.toList with
   | none => exact Int.le_refl _
   | some v => exact numP_range _ 0 (Int.le_refl _) v h
  ·
   exact ho
 ·
  exact ho
theorem sec_none (other : Int) : secV ⟨#[]⟩ other = other := rfl

theorem cut_size (e : ByteArray) (M : Nat) (h : e.size ≤ M) : (cutA e).size ≤ M ∧ (cutB e).size ≤ M := by
 unfold cutA cutB
 constructor
 ·
  split
  ·
   rw [ByteArray.size_extract]; omega
  ·
   exact h
 ·
  split
  ·
   rw [ByteArray.size_extract]; omega
  ·
   exact Nat.zero_le _
theorem cut_none (e : ByteArray) (h : cutH e = false) : cutB e = ⟨#[]⟩ := by
 unfold cutH at h
 unfold cutB
 rw [if_neg (of_decide_eq_false h)]
theorem idx_drop (s : ByteArray) (hs : s.size ≤ 1000000) : ∀ (d i k : Nat), i + d = s.size → d < k → (∀ j (h : j < s.data.toList.length), j < i → s.data.toList[j] ≠ 61) → pantryref04_cut.l0 k s (i : Int) = some (cutA s, cutB s, cutH s) := by
 have hz := size_l s
 have hI : ∀ (l : List UInt8) (i : Nat), (∀ j (h : j < l.length), j < i → l[j] ≠ 61) → (h : i < l.length) → l[i] = 61 → Lib.indexByte l 61 = (i : Int) := by
  intro l
  induction l with
  | nil => intro i _ h; simp at h
  | cons b l ih =>
   intro i hn h he
   cases i with
   | zero =>
    have hb : b = 61 := by simpa using he
    unfold Lib.indexByte
    rw [if_pos (by simpa using hb)]
    rfl
   | succ i =>
    have hb : b ≠ 61 := hn 0 (by simp) (by omega)
    have := ih i (fun j h hj => by have := hn (j + 1) (by simpa using h) (by omega); simpa using this) (by simpa using h) (by simpa using he)
    unfold Lib.indexByte
    rw [if_neg (by simpa using hb), this]
    have h2 : ((i : Int) == -1) = false := beq_eq_false_iff_ne.2 (by omega)
    rw [h2, if_neg (by simp)]
    omega
 have hN : ∀ (l : List UInt8), (∀ j (h : j < l.length), l[j] ≠ 61) → Lib.indexByte l 61 = -1 := by
  intro l
  induction l with
  | nil => intro _; rfl
  | cons b l ih =>
   intro hn
   have hb : b ≠ 61 := hn 0 (by simp)
   have := ih (fun j h => by have := hn (j + 1) (by simpa using h); simpa using this)
   unfold Lib.indexByte
   rw [if_neg (by simpa using hb), this]
   rfl
 intro d
 induction d with
 | zero =>
  intro i k hi hk hn
  obtain ⟨k, rfl⟩ : ∃ j, k = j + 1 := ⟨k - 1, by omega⟩
  simp only [pantryref04_cut.l0]
  rw [if_neg (by omega)]
  have e : cutI s = -1 := hN _ (fun j h => hn j h (by omega))
  unfold cutA cutB cutH
  rw [e]
  rfl
 | succ d ih =>
  intro i k hi hk hn
  obtain ⟨k, rfl⟩ : ∃ j, k = j + 1 := ⟨k - 1, by omega⟩
  have hlt : i < s.data.toList.length := by omega
  have e61 : ((s.data.toList[i]).toNat : Int) = 61 ↔ s.data.toList[i] = 61 := u8_eq _ 61
  simp only [pantryref04_cut.l0]
  rw [if_pos (by omega), if_pos (by omega), bt_at2 s i hlt, w64n (by omega) (by omega)]
  by_cases h : s.data.toList[i] = 61
  ·
   have e : cutI s = (i : Int) := hI _ i hn hlt h
   rw [if_pos (e61.2 h), if_pos (by omega), if_pos (by omega), if_pos (by omega)]
   unfold cutA cutB cutH
   rw [e, if_pos (by omega), if_pos (by omega), decide_eq_true (by omega)]
  ·
   rw [if_neg (fun x => h (e61.1 x))]
   have := ih (i + 1) k (by omega) (by omega) (fun j hj hlt2 => by
    rcases Nat.lt_or_ge j i with h2 | h2
    ·
     exact hn j hj h2
    ·
     obtain rfl : j = i := by omega
     exact h)
   rwa [show ((i + 1 : Nat) : Int) = (i : Int) + 1 by omega] at this
theorem cut_eval (s : ByteArray) (hs : s.size ≤ 1000000) (k : Nat) (hk : 1000000 < k) : pantryref04_cut.f k s = some (cutA s, cutB s, cutH s) := by
 unfold pantryref04_cut.f
 exact idx_drop s hs s.size 0 k (Nat.zero_add _) (by omega) (fun j _ h => by omega)
def nmIs (e : ByteArray) (nm : List UInt8) : Bool := (lowB (cutA e)).toList == nm
def saidV (es : List ByteArray) (nm : List UInt8) : Bool := es.any fun e => nmIs e nm
def secE (e : ByteArray) (other bare : Int) : Int := if cutH e = true then secV (cutB e) other else bare
def stepL (most : Bool) (o s : Int) : Int := if o < 0 ∨ (most = true ∧ s > o) ∨ (most = false ∧ s < o) then s else o
def toldV (nm : List UInt8) (other bare : Int) (most : Bool) : Int → List ByteArray → Int
 | o, [] => o
 | o, e :: l => toldV nm other bare most (if nmIs e nm = true then stepL most o (secE e other bare) else o) l
theorem rsd_l0 (es : List ByteArray) (nm : ByteArray) (hl : es.length ≤ 1000000) (hs : ∀ e ∈ es, e.size ≤ 80000) : ∀ (d i k : Nat), i + d = es.length → d + 2000000 < k → pantryref04_said.l0 k es nm (i : Int) = some (saidV (es.drop i) nm.toList) := by
 intro d
 induction d with
 | zero =>
  intro i k hi hk
  obtain ⟨k, rfl⟩ : ∃ j, k = j + 1 := ⟨k - 1, by omega⟩
  simp only [pantryref04_said.l0]
  rw [if_neg (by omega), List.drop_of_length_le (by omega)]
  rfl
 | succ d ih =>
  intro i k hi hk
  obtain ⟨k, rfl⟩ : ∃ j, k = j + 1 := ⟨k - 1, by omega⟩
  have hlt : i < es.length := by omega
  have hsz := hs _ (List.getElem_mem hlt)
  have hc := cut_size es[i] 80000 hsz
  have := ih (i + 1) k (by omega) (by omega)
  rw [show ((i + 1 : Nat) : Int) = (i : Int) + 1 by omega] at this
  simp only [pantryref04_said.l0]
  rw [if_pos (by omega), if_pos (by omega), rdB es i hlt, cut_eval _ (by omega) k (by omega)]
  simp only [Option.bind_some]
  rw [rlow_eval _ (by omega) k (by omega), w64n (by omega) (by omega), this, List.drop_eq_getElem_cons hlt]
  simp only [Option.bind_some]
  unfold saidV
  rw [List.any_cons]
  by_cases h : (lowB (cutA es[i])).toList = nm.toList
  ·
   rw [if_pos h]
   have : nmIs es[i] nm.toList = true := by unfold nmIs; rw [beq_iff_eq]; exact h
   rw [this]; rfl
  ·
   rw [if_neg h]
   have : nmIs es[i] nm.toList = false := by unfold nmIs; rw [beq_eq_false_iff_ne]; exact h
   rw [this]; rfl
theorem rsd_eval (es : List ByteArray) (nm : ByteArray) (hl : es.length ≤ 1000000) (hs : ∀ e ∈ es, e.size ≤ 80000) (k : Nat) (hk : 3000001 < k) : pantryref04_said.f k es nm = some (saidV es nm.toList) := by
 unfold pantryref04_said.f
 exact rsd_l0 es nm hl hs es.length 0 k (Nat.zero_add _) (by omega)
theorem told_l0 (es : List ByteArray) (nm : ByteArray) (other bare : Int) (most : Bool) (hl : es.length ≤ 1000000) (hs : ∀ e ∈ es, e.size ≤ 80000) : ∀ (d i k : Nat) (o : Int), i + d = es.length → d + 3000000 < k → pantryref04_told.l0 k es nm other bare most o (i : Int) = some (toldV nm.toList other bare most o (es.drop i)) := by
 intro d
 induction d with
 | zero =>
  intro i k o hi hk
  obtain ⟨k, rfl⟩ : ∃ j, k = j + 1 := ⟨k - 1, by omega⟩
  simp only [pantryref04_told.l0]
  rw [if_neg (by omega), List.drop_of_length_le (by omega)]
  rfl
 | succ d ih =>
  intro i k o hi hk
  obtain ⟨k, rfl⟩ : ∃ j, k = j + 1 := ⟨k - 1, by omega⟩
  have hlt : i < es.length := by omega
  have hsz := hs _ (List.getElem_mem hlt)
  have hc := cut_size es[i] 80000 hsz
  have nx : ∀ o, pantryref04_told.l0 k es nm other bare most o ((i : Int) + 1) = some (toldV nm.toList other bare most o (es.drop (i + 1))) := fun o => by
   have := ih (i + 1) k o (by omega) (by omega)
   rwa [show ((i + 1 : Nat) : Int) = (i : Int) + 1 by omega] at this
  simp only [pantryref04_told.l0]
  rw [if_pos (by omega), if_pos (by omega), rdB es i hlt, cut_eval _ (by omega) k (by omega)]
  simp only [Option.bind_some]
  rw [rlow_eval _ (by omega) k (by omega), w64n (by omega) (by omega), List.drop_eq_getElem_cons hlt, toldV]
  simp only [Option.bind_some]
  by_cases h : (lowB (cutA es[i])).toList = nm.toList
  ·
   have hn : nmIs es[i] nm.toList = true := by unfold nmIs; rw [beq_iff_eq]; exact h
   rw [if_pos h, hn, if_pos rfl, rsec_eval _ (by omega) other k (by omega)]
   simp only [Option.bind_some]
   have fin : ∀ s, s = secE es[i] other bare → (if o < 0 then pantryref04_told.l0 k es nm other bare most s ((i : Int) + 1) else if most = true then (if s > o then pantryref04_told.l0 k es nm other bare most s ((i : Int) + 1) else pantryref04_told.l0 k es nm other bare most o ((i : Int) + 1)) else (if s < o then pantryref04_told.l0 k es nm other bare most s ((i : Int) + 1) else pantryref04_told.l0 k es nm other bare most o ((i : Int) + 1))) = some (toldV nm.toList other bare most (stepL most o (secE es[i] other bare)) (es.drop (i + 1))) := by
    rintro s rfl
    simp only [nx]
    unfold stepL
    by_cases h0 : o < 0
    ·
     rw [if_pos h0, if_pos (.inl h0)]
    ·
     rw [if_neg h0]
     cases most with
     | true =>
      rw [if_pos rfl]
      by_cases h2 : secE es[i] other bare > o
      ·
       rw [if_pos h2, if_pos (.inr (.inl ⟨rfl, h2⟩))]
      ·
       rw [if_neg h2, if_neg (by rintro (x | ⟨_, x⟩ | ⟨x, _⟩) <;> first | exact h0 x | exact h2 x | cases x)]
     | false =>
      rw [if_neg (by simp)]
      by_cases h2 : secE es[i] other bare < o
      ·
       rw [if_pos h2, if_pos (.inr (.inr ⟨rfl, h2⟩))]
      ·
       rw [if_neg h2, if_neg (by rintro (x | ⟨x, _⟩ | ⟨_, x⟩) <;> first | exact h0 x | exact h2 x | cases x)]
   by_cases hh : cutH es[i] = true
   ·
    rw [if_pos hh]
    exact fin _ (by unfold secE; rw [if_pos hh])
   ·
    rw [if_neg hh]
    exact fin _ (by unfold secE; rw [if_neg hh])
  ·
   have hn : nmIs es[i] nm.toList = false := by unfold nmIs; rw [beq_eq_false_iff_ne]; exact h
   rw [if_neg h, hn, if_neg (by simp), nx]
theorem told_eval (es : List ByteArray) (nm : ByteArray) (other bare : Int) (most : Bool) (hl : es.length ≤ 1000000) (hs : ∀ e ∈ es, e.size ≤ 80000) (k : Nat) (hk : 4000001 < k) : pantryref04_told.f k es nm other bare most = some (toldV nm.toList other bare most (-1) es) := by
 unfold pantryref04_told.f
 exact told_l0 es nm other bare most hl hs es.length 0 k (-1) (Nat.zero_add _) (by omega)
def nNoStore : List UInt8 := [110, 111, 45, 115, 116, 111, 114, 101]
def nNoCache : List UInt8 := [110, 111, 45, 99, 97, 99, 104, 101]
def nPrivate : List UInt8 := [112, 114, 105, 118, 97, 116, 101]
def nPublic : List UInt8 := [112, 117, 98, 108, 105, 99]
def nMust : List UInt8 := [109, 117, 115, 116, 45, 114, 101, 118, 97, 108, 105, 100, 97, 116, 101]
def nProxy : List UInt8 := [112, 114, 111, 120, 121, 45, 114, 101, 118, 97, 108, 105, 100, 97, 116, 101]
def nOnly : List UInt8 := [111, 110, 108, 121, 45, 105, 102, 45, 99, 97, 99, 104, 101, 100]
def nMax : List UInt8 := [109, 97, 120, 45, 97, 103, 101]
def nShared : List UInt8 := [115, 45, 109, 97, 120, 97, 103, 101]
def nFresh : List UInt8 := [109, 105, 110, 45, 102, 114, 101, 115, 104]
def nStale : List UInt8 := [109, 97, 120, 45, 115, 116, 97, 108, 101]
/-- One directive, all of a Control at once. -/
def oneV (c : Ctl) (e : ByteArray) : Ctl :=
 ⟨c.s0 || nmIs e nNoStore, c.s1 || nmIs e nNoCache, c.s2 || nmIs e nPrivate, c.s3 || nmIs e nPublic, c.s4 || (nmIs e nMust || nmIs e nProxy), c.s5 || nmIs e nOnly,
  if nmIs e nMax = true then stepL false c.s6 (secE e 0 0) else c.s6, if nmIs e nShared = true then stepL false c.s7 (secE e 0 0) else c.s7,
  if nmIs e nFresh = true then stepL true c.s8 (secE e 2147483648 2147483648) else c.s8, if nmIs e nStale = true then stepL false c.s9 (secE e 0 2147483648) else c.s9⟩
theorem least_step (o n : Int) : leastV o n = stepL false o n := by
 unfold leastV stepL
 by_cases h : o < 0 ∨ n < o
 ·
  rw [if_pos h, if_pos (by rcases h with h | h; exact .inl h; exact .inr (.inr ⟨rfl, h⟩))]
 ·
  rw [if_neg h, if_neg (by rintro (x | ⟨x, _⟩ | ⟨_, x⟩); exact h (.inl x); cases x; exact h (.inr x))]
theorem most_step (o n : Int) (ho : -1 ≤ o) (hn : 0 ≤ n) : mx o n = stepL true o n := by
 unfold mx stepL
 by_cases h : o < n
 ·
  rw [if_pos h, if_pos (.inr (.inl ⟨rfl, h⟩))]
 ·
  rw [if_neg h, if_neg (by rintro (x | ⟨_, x⟩ | ⟨x, _⟩); omega; omega; cases x)]
theorem secE_flat (e : ByteArray) (v : Int) : secV (cutB e) v = secE e v v := by
 unfold secE
 by_cases h : cutH e = true
 ·
  rw [if_pos h]
 ·
  rw [if_neg h, cut_none e (by simpa using h), sec_none]
theorem dir_eval (c : Ctl) (e : ByteArray) (he : e.size ≤ 80000) (hc : -1 ≤ c.s8) (k : Nat) (hk : 2000000 < k) : dirV k c (lowB (cutA e)) (cutB e) (cutH e) = some (oneV c e) ∧ -1 ≤ (oneV c e).s8 := by
 have hsz := (cut_size e 80000 he).2
 have hs : ∀ other, control_seconds.f k (cutB e) other = some (secV (cutB e) other) := fun other => sec_eval _ (by omega) other k hk
 have h8 : 0 ≤ secE e 2147483648 2147483648 := by rw [← secE_flat]; exact sec_range _ _ (by omega)
 have hm : ∀ x, nmIs e x = ((lowB (cutA e)).toList == x) := fun x => rfl
 have hmx : mx c.s8 (secE e 2147483648 2147483648) = stepL true c.s8 (secE e 2147483648 2147483648) := most_step _ _ hc h8
 constructor
 ·
  unfold dirV oneV
  simp only [hs, Option.bind_some, hm, least_step, secE_flat, hmx]
  generalize hnm : (lowB (cutA e)).toList = nm
  by_cases c0 : nm = nNoStore
  ·
   subst c0; simp [nNoStore, nNoCache, nPrivate, nPublic, nMust, nProxy, nOnly, nMax, nShared, nFresh, nStale]
  by_cases c1 : nm = nNoCache
  ·
   subst c1; simp [nNoStore, nNoCache, nPrivate, nPublic, nMust, nProxy, nOnly, nMax, nShared, nFresh, nStale]
  by_cases c2 : nm = nPrivate
  ·
   subst c2; simp [nNoStore, nNoCache, nPrivate, nPublic, nMust, nProxy, nOnly, nMax, nShared, nFresh, nStale]
  by_cases c3 : nm = nPublic
  ·
   subst c3; simp [nNoStore, nNoCache, nPrivate, nPublic, nMust, nProxy, nOnly, nMax, nShared, nFresh, nStale]
  by_cases c4 : nm = nMust
  ·
   subst c4; simp [nNoStore, nNoCache, nPrivate, nPublic, nMust, nProxy, nOnly, nMax, nShared, nFresh, nStale]
  by_cases c5 : nm = nProxy
  ·
   subst c5; simp [nNoStore, nNoCache, nPrivate, nPublic, nMust, nProxy, nOnly, nMax, nShared, nFresh, nStale]
  by_cases c6 : nm = nOnly
  ·
   subst c6; simp [nNoStore, nNoCache, nPrivate, nPublic, nMust, nProxy, nOnly, nMax, nShared, nFresh, nStale]
  by_cases c7 : nm = nMax
  ·
   subst c7; simp [nNoStore, nNoCache, nPrivate, nPublic, nMust, nProxy, nOnly, nMax, nShared, nFresh, nStale]
  by_cases c8 : nm = nShared
  ·
   subst c8; simp [nNoStore, nNoCache, nPrivate, nPublic, nMust, nProxy, nOnly, nMax, nShared, nFresh, nStale]
  by_cases c9 : nm = nFresh
  ·
   subst c9; simp [nNoStore, nNoCache, nPrivate, nPublic, nMust, nProxy, nOnly, nMax, nShared, nFresh, nStale]
  by_cases c10 : nm = nStale
  ·
   subst c10
   unfold secE
   cases cutH e <;> simp [nNoStore, nNoCache, nPrivate, nPublic, nMust, nProxy, nOnly, nMax, nShared, nFresh, nStale]
  have f : ∀ x, nm ≠ x → (nm == x) = false := fun x h => beq_eq_false_iff_ne.2 h
  simp only [f _ c0, f _ c1, f _ c2, f _ c3, f _ c4, f _ c5, f _ c6, f _ c7, f _ c8, f _ c9, f _ c10, Bool.or_false, Bool.false_eq_true, if_false]
  simp only [nNoStore, nNoCache, nPrivate, nPublic, nMust, nProxy, nOnly, nMax, nShared, nFresh, nStale] at c0 c1 c2 c3 c4 c5 c6 c7 c8 c9 c10
  rw [if_neg c0, if_neg c1, if_neg c2, if_neg c3, if_neg c4, if_neg c5, if_neg c6, if_neg c7, if_neg c8, if_neg c9, if_neg c10]
 ·
  unfold oneV
  show -1 ≤ (if nmIs e nFresh = true then stepL true c.s8 (secE e 2147483648 2147483648) else c.s8)
  split
  ·
   unfold stepL
   split <;> omega
  ·
   exact hc
def allC (c : Ctl) (es : List ByteArray) : Ctl := es.foldl oneV c
theorem ofGo_eval (k : Nat) (hk : 2000000 < k) : ∀ (es : List ByteArray) (c : Ctl), (∀ e ∈ es, e.size ≤ 80000) → -1 ≤ c.s8 → ofGo k c es = some (allC c es) := by
 intro es
 induction es with
 | nil => intro c _ _; rfl
 | cons e es ih =>
  intro c hs hc
  obtain ⟨h1, h2⟩ := dir_eval c e (hs e (by simp)) hc k hk
  rw [ofGo, h1]
  simp only [Option.bind_some]
  exact ih _ (fun x hx => hs x (by simp [hx])) h2
theorem allC_eq : ∀ (es : List ByteArray) (c : Ctl), allC c es = ⟨c.s0 || saidV es nNoStore, c.s1 || saidV es nNoCache, c.s2 || saidV es nPrivate, c.s3 || saidV es nPublic, c.s4 || (saidV es nMust || saidV es nProxy), c.s5 || saidV es nOnly, toldV nMax 0 0 false c.s6 es, toldV nShared 0 0 false c.s7 es, toldV nFresh 2147483648 2147483648 true c.s8 es, toldV nStale 0 2147483648 false c.s9 es⟩ := by
 intro es
 induction es with
 | nil => intro c; simp [allC, saidV, toldV]
 | cons e es ih =>
  intro c
  have : allC c (e :: es) = allC (oneV c e) es := rfl
  rw [this, ih]
  simp only [oneV, saidV, List.any_cons, toldV, Ctl.mk.injEq, Bool.or_assoc, and_true, true_and]
  ac_rfl
def ccU : ByteArray := ⟨#[67, 97, 99, 104, 101, 45, 67, 111, 110, 116, 114, 111, 108]⟩
def ccL : ByteArray := ⟨#[99, 97, 99, 104, 101, 45, 99, 111, 110, 116, 114, 111, 108]⟩
def prU : ByteArray := ⟨#[80, 114, 97, 103, 109, 97]⟩
def prL : ByteArray := ⟨#[112, 114, 97, 103, 109, 97]⟩
def ncB : ByteArray := ⟨#[110, 111, 45, 99, 97, 99, 104, 101]⟩
theorem cc_low : ccL = lowB ccU := by decide +kernel
theorem pr_low : prL = lowB prU := by decide +kernel
theorem isOf_low (n : ByteArray) : isOf [lowB n] = isOf [n] := by
 funext o
 unfold isOf
 simp only [List.any_cons, List.any_nil, Bool.or_false]
 exact sameB_low n o.f0
theorem allV_low (n : ByteArray) (l : List S46) : allV (lowB n) l = allV n l := by unfold allV; rw [isOf_low]
theorem getB_low (n : ByteArray) (l : List S46) : getB (lowB n) l = getB n l := by unfold getB; rw [allV_low]
theorem elemsB_low (n : ByteArray) (l : List S46) : elemsB (lowB n) l = elemsB n l := by unfold elemsB; rw [getB_low]
def pragV (l : List S46) : Bool := decide ((allV ccU l).length = 0) && ((elemsB prU l).any fun e => sameB e ncB)
def finV (l : List S46) (c : Ctl) : Ctl := if pragV l = true then { c with s1 := true } else c
def ofV (l : List S46) : Ctl := finV l (allC noneC (elemsB ccU l))
theorem end_eval (l : List S46) (h : SmallF l) (c : Ctl) (k : Nat) (hk : 3000100 < k) : ofEnd k l c = some (finV l c) := by
 unfold ofEnd
 have hl := h.1
 have g : field_List_Get.f k l ccU = some (getB ccU l, decide (0 < (allV ccU l).length)) := get_eval ccU l (by decide) h.2 (by omega) k (by omega)
 have g' : field_List_Get.f k l (⟨#[67, 97, 99, 104, 101, 45, 67, 111, 110, 116, 114, 111, 108]⟩ : ByteArray) = some (getB ccU l, decide (0 < (allV ccU l).length)) := g
 have hh : field_List_Has.f k l prU ncB = some ((elemsB prU l).any fun e => sameB e ncB) := has_eval prU ncB l (by decide) (by decide) h k hk
 have hh' : field_List_Has.f k l (⟨#[80, 114, 97, 103, 109, 97]⟩ : ByteArray) (⟨#[110, 111, 45, 99, 97, 99, 104, 101]⟩ : ByteArray) = some ((elemsB prU l).any fun e => sameB e ncB) := hh
 rw [g']
 simp only [Option.bind_some]
 unfold finV pragV
 by_cases h0 : 0 < (allV ccU l).length
 ·
  rw [if_pos (decide_eq_true h0), decide_eq_false (by omega), Bool.false_and, if_neg (by simp)]
 ·
  rw [if_neg (by rw [decide_eq_false h0]; simp), hh', decide_eq_true (by omega), Bool.true_and]
  rfl
theorem of_eval (l : List S46) (h : SmallF l) (k : Nat) (hk : 3000100 < k) : control_Of.f k l = some (ctTup (ofV l)) := by
 unfold control_Of.f
 obtain ⟨e1, e2⟩ := elems_ok ccU l h
 have el : field_List_Elements.f k l (⟨#[67, 97, 99, 104, 101, 45, 67, 111, 110, 116, 114, 111, 108]⟩ : ByteArray) = some (elemsB ccU l) := elems_eval ccU l (by decide) h k hk
 rw [el]
 simp only [Option.bind_some]
 rw [if_pos ⟨by omega, fun e he => by have := e2 e he; omega⟩, ofGo_eval k (by omega) _ noneC e2 (by decide)]
 simp only [Option.bind_some]
 rw [end_eval l h _ k hk]
 rfl
theorem tl (a : Array UInt8) : (⟨a⟩ : ByteArray).toList = a.toList := ByteArray.toList_eq ..
theorem rof_eval (l : List S46) (h : SmallF l) (k : Nat) (hk : 4000200 < k) : pantryref04_Of.f k (l.map conv) = some (ctTup (ofV l)) := by
 obtain ⟨e1, e2⟩ := elems_ok ccU l h
 obtain ⟨k, rfl⟩ : ∃ j, k = j + 1 := ⟨k - 1, by omega⟩
 unfold pantryref04_Of.f
 have el : pantryref03_Elements.f (k + 1) (l.map conv) (⟨#[99, 97, 99, 104, 101, 45, 99, 111, 110, 116, 114, 111, 108]⟩ : ByteArray) = some (elemsB ccU l) := by
  have := relems_eval ccL l (by decide) h (k + 1) (by omega)
  rw [cc_low, elemsB_low] at this
  rw [← this, ← cc_low]
  rfl
 have sd : ∀ (nm : ByteArray), pantryref04_said.f (k + 1) (elemsB ccU l) nm = some (saidV (elemsB ccU l) nm.toList) := fun nm => rsd_eval _ nm (by omega) e2 (k + 1) (by omega)
 have td : ∀ (nm : ByteArray) (a b : Int) (m : Bool), pantryref04_told.f k (elemsB ccU l) nm a b m = some (toldV nm.toList a b m (-1) (elemsB ccU l)) := fun nm a b m => told_eval _ nm a b m (by omega) e2 k (by omega)
 have gt : pantryref03_Get.f k (l.map conv) (⟨#[99, 97, 99, 104, 101, 45, 99, 111, 110, 116, 114, 111, 108]⟩ : ByteArray) = some (getB ccU l, ((allV ccU l).length : Int)) := by
  have := rget_eval ccL l (by decide) h k (by omega)
  rw [cc_low, getB_low, allV_low] at this
  rw [← this, ← cc_low]
  rfl
 have hs : pantryref03_Has.f k (l.map conv) (⟨#[112, 114, 97, 103, 109, 97]⟩ : ByteArray) (⟨#[110, 111, 45, 99, 97, 99, 104, 101]⟩ : ByteArray) = some ((elemsB prU l).any fun e => sameB e ncB) := by
  have := rhas_eval prL ncB l (by decide) (by decide) h k (by omega)
  rw [pr_low, elemsB_low] at this
  rw [← this, ← pr_low]
  rfl
 have fin : ∀ m : Bool, m = (saidV (elemsB ccU l) nMust || saidV (elemsB ccU l) nProxy) → pantryref04_Of.j0 (k + 1) (l.map conv) (elemsB ccU l) (saidV (elemsB ccU l) nNoStore) (saidV (elemsB ccU l) nNoCache) (saidV (elemsB ccU l) nPrivate) (saidV (elemsB ccU l) nPublic) m (saidV (elemsB ccU l) nOnly) 0 0 0 0 = some (ctTup (ofV l)) := by
  rintro m rfl
  simp only [pantryref04_Of.j0, td, Option.bind_some, gt, tl]
  have hofv : ofV l = finV l ⟨saidV (elemsB ccU l) nNoStore, saidV (elemsB ccU l) nNoCache, saidV (elemsB ccU l) nPrivate, saidV (elemsB ccU l) nPublic, saidV (elemsB ccU l) nMust || saidV (elemsB ccU l) nProxy, saidV (elemsB ccU l) nOnly, toldV nMax 0 0 false (-1) (elemsB ccU l), toldV nShared 0 0 false (-1) (elemsB ccU l), toldV nFresh 2147483648 2147483648 true (-1) (elemsB ccU l), toldV nStale 0 2147483648 false (-1) (elemsB ccU l)⟩ := by
   unfold ofV
   rw [allC_eq]
   simp only [noneC, Bool.false_or]
  rw [hofv]
  unfold finV pragV
  by_cases h0 : ((allV ccU l).length : Int) = 0
  ·
   rw [if_pos h0, hs, decide_eq_true (by omega), Bool.true_and]
   simp only [Option.bind_some]
   cases (elemsB prU l).any fun e => sameB e ncB with
   | true => rw [if_pos rfl, if_pos rfl]; rfl
   | false => rw [if_neg (by simp), if_neg (by simp)]; rfl
  ·
   rw [if_neg h0, decide_eq_false (by omega), Bool.false_and, if_neg (by simp)]
   rfl
 rw [el]
 simp only [Option.bind_some, sd, tl]
 by_cases hm : saidV (elemsB ccU l) nMust = true
 ·
  refine (if_pos hm).trans ?_
  exact fin true (by rw [hm]; rfl)
 ·
  refine (if_neg hm).trans ?_
  have hm2 : saidV (elemsB ccU l) nMust = false := by simpa using hm
  exact fin _ (by rw [hm2, Bool.false_or]; rfl)

/-! ## Days, months and years, as numbers -/
theorem w64 {x : Int} (h0 : -9223372036854775808 ≤ x) (h1 : x ≤ 9223372036854775807) : wrap64 x = x := by unfold wrap64; omega
theorem tdiv_pos {a b : Int} (h : 0 ≤ a) : Int.tdiv a b = a / b := Int.tdiv_eq_ediv_of_nonneg h
theorem tmod_pos {a b : Int} (h : 0 ≤ a) : Int.tmod a b = a % b := Int.tmod_eq_emod_of_nonneg h
theorem tmod_zero (a b : Int) : Int.tmod a b = 0 ↔ a % b = 0 := by rw [← Int.dvd_iff_tmod_eq_zero, ← Int.dvd_iff_emod_eq_zero]
def leapP (y : Int) : Prop := (y % 4 = 0 ∧ y % 100 ≠ 0) ∨ y % 400 = 0
instance (y : Int) : Decidable (leapP y) := by unfold leapP; infer_instance
def lp (y : Int) : Int := if leapP y then 1 else 0
def mlen (y m : Int) : Int := if m = 2 then 28 + lp y else if m = 4 ∨ m = 6 ∨ m = 9 ∨ m = 11 then 30 else 31
def daysI (y m : Int) : Int := if y < 1970 ∨ 9999 < y ∨ m < 1 ∨ 12 < m then 0 else mlen y m
def ybef (y : Int) : Int := (y - 1) * 365 + (y - 1) / 4 - (y - 1) / 100 + (y - 1) / 400 - 719162
def mbef (y m : Int) : Int :=
 if m = 1 then 0 else if m = 2 then 31 else (if m = 3 then 59 else if m = 4 then 90 else if m = 5 then 120 else if m = 6 then 151 else if m = 7 then 181 else if m = 8 then 212 else if m = 9 then 243 else if m = 10 then 273 else if m = 11 then 304 else if m = 12 then 334 else 365) + lp y
theorem lp_01 (y : Int) : lp y = 0 ∨ lp y = 1 := by unfold lp; split <;> simp
theorem ybef_succ (y : Int) : ybef (y + 1) = ybef y + 365 + lp y := by
 unfold ybef lp
 by_cases h : leapP y
 ·
  rw [if_pos h]
  unfold leapP at h
  omega
 ·
  rw [if_neg h]
  unfold leapP at h
  omega
theorem mbef_succ (y m : Int) (h1 : 1 ≤ m) (h2 : m ≤ 12) : mbef y (m + 1) = mbef y m + mlen y m := by
 have hm : m = 1 ∨ m = 2 ∨ m = 3 ∨ m = 4 ∨ m = 5 ∨ m = 6 ∨ m = 7 ∨ m = 8 ∨ m = 9 ∨ m = 10 ∨ m = 11 ∨ m = 12 := by omega
 have := lp_01 y
 rcases hm with rfl | rfl | rfl | rfl | rfl | rfl | rfl | rfl | rfl | rfl | rfl | rfl <;> simp [mbef, mlen] <;> omega
theorem mbef_13 (y : Int) : mbef y 13 = 365 + lp y := by simp [mbef]
theorem mbef_1 (y : Int) : mbef y 1 = 0 := by simp [mbef]
theorem mlen_bd (y m : Int) : 28 ≤ mlen y m ∧ mlen y m ≤ 31 := by
 have := lp_01 y
 unfold mlen
 split
 ·
  omega
 ·
  split <;> omega
theorem mbef_bd (y m : Int) (h1 : 1 ≤ m) (h2 : m ≤ 13) : 0 ≤ mbef y m ∧ mbef y m ≤ 366 := by
 have hm : m = 1 ∨ m = 2 ∨ m = 3 ∨ m = 4 ∨ m = 5 ∨ m = 6 ∨ m = 7 ∨ m = 8 ∨ m = 9 ∨ m = 10 ∨ m = 11 ∨ m = 12 ∨ m = 13 := by omega
 have := lp_01 y
 rcases hm with rfl | rfl | rfl | rfl | rfl | rfl | rfl | rfl | rfl | rfl | rfl | rfl | rfl <;> simp [mbef] <;> omega
theorem ybef_mono {a b : Int} (h : a ≤ b) : ybef a ≤ ybef b := by unfold ybef; omega
theorem mbef_mono (y : Int) {a b : Int} (h1 : 1 ≤ a) (h : a ≤ b) (h2 : b ≤ 13) : mbef y a ≤ mbef y b := by
 have ha : a = 1 ∨ a = 2 ∨ a = 3 ∨ a = 4 ∨ a = 5 ∨ a = 6 ∨ a = 7 ∨ a = 8 ∨ a = 9 ∨ a = 10 ∨ a = 11 ∨ a = 12 ∨ a = 13 := by omega
 have hb : b = 1 ∨ b = 2 ∨ b = 3 ∨ b = 4 ∨ b = 5 ∨ b = 6 ∨ b = 7 ∨ b = 8 ∨ b = 9 ∨ b = 10 ∨ b = 11 ∨ b = 12 ∨ b = 13 := by omega
 have := lp_01 y
 rcases ha with rfl | rfl | rfl | rfl | rfl | rfl | rfl | rfl | rfl | rfl | rfl | rfl | rfl <;> rcases hb with rfl | rfl | rfl | rfl | rfl | rfl | rfl | rfl | rfl | rfl | rfl | rfl | rfl <;> first | omega | (simp [mbef] <;> omega)
/-- The time t is the day d of the month m of the year y, r seconds of it having passed. -/
structure IsDate (t y m d r : Int) : Prop where
 y0 : 1970 ≤ y
 y1 : y ≤ 9999
 m0 : 1 ≤ m
 m1 : m ≤ 12
 d0 : 1 ≤ d
 d1 : d ≤ mlen y m
 r0 : 0 ≤ r
 r1 : r < 86400
 eq : t = (ybef y + mbef y m + d - 1) * 86400 + r
theorem IsDate.range {t y m d r : Int} (h : IsDate t y m d r) : 0 ≤ t ∧ t ≤ 253402300799 := by
 have h1 := mbef_bd y m h.m0 (by have := h.m1; omega)
 have h2 := mbef_succ y m h.m0 h.m1
 have h3 := mbef_mono y (a := m + 1) (b := 13) (by have := h.m0; omega) (by have := h.m1; omega) (by omega)
 have h4 := ybef_succ y
 have h5 := ybef_mono (a := 1970) (b := y) h.y0
 have h6 := ybef_mono (a := y + 1) (b := 10000) (by have := h.y1; omega)
 have h7 : ybef 1970 = 0 := by decide
 have h8 : ybef 10000 = 2932897 := by decide
 have h9 := mbef_13 y
 have := h.d0; have := h.d1; have := h.r0; have := h.r1; have := h.eq
 omega
theorem IsDate.unique {t y m d r y' m' d' r' : Int} (h : IsDate t y m d r) (h' : IsDate t y' m' d' r') : y = y' ∧ m = m' ∧ d = d' ∧ r = r' := by
 have key : ∀ {y m d r}, IsDate t y m d r → ybef y ≤ t / 86400 ∧ t / 86400 < ybef (y + 1) ∧ mbef y m ≤ t / 86400 - ybef y ∧ t / 86400 - ybef y < mbef y (m + 1) ∧ d = t / 86400 - ybef y - mbef y m + 1 ∧ r = t % 86400 := by
  intro y m d r h
  have h1 := mbef_bd y m h.m0 (by have := h.m1; omega)
  have h2 := mbef_succ y m h.m0 h.m1
  have h3 := mbef_mono y (a := m + 1) (b := 13) (by have := h.m0; omega) (by have := h.m1; omega) (by omega)
  have h4 := ybef_succ y
  have h9 := mbef_13 y
  have := h.d0; have := h.d1; have := h.r0; have := h.r1; have := h.eq
  omega
 obtain ⟨a1, a2, a3, a4, a5, a6⟩ := key h
 obtain ⟨b1, b2, b3, b4, b5, b6⟩ := key h'
 have hy : y = y' := by
  rcases Int.lt_trichotomy y y' with hl | he | hg
  ·
   have := ybef_mono (a := y + 1) (b := y') (by omega); omega
  ·
   exact he
  ·
   have := ybef_mono (a := y' + 1) (b := y) (by omega); omega
 subst hy
 have hm : m = m' := by
  rcases Int.lt_trichotomy m m' with hl | he | hg
  ·
   have := mbef_mono y (a := m + 1) (b := m') (by have := h.m0; omega) (by omega) (by have := h'.m1; omega); omega
  ·
   exact he
  ·
   have := mbef_mono y (a := m' + 1) (b := m) (by have := h'.m0; omega) (by omega) (by have := h.m1; omega); omega
 subst hm
 omega

/-! ## What the printed functions come to -/
theorem leap_eval (y : Int) : date_leap.f y = some (decide (leapP y)) := by
 have h4 : Int.tmod y 4 = 0 ↔ y % 4 = 0 := tmod_zero y 4
 have h100 : Int.tmod y 100 = 0 ↔ y % 100 = 0 := tmod_zero y 100
 have h400 : Int.tmod y 400 = 0 ↔ y % 400 = 0 := tmod_zero y 400
 unfold date_leap.f leapP
 by_cases a : y % 4 = 0
 ·
  rw [if_pos (h4.2 a)]
  by_cases b : y % 100 = 0
  ·
   rw [if_pos (h100.2 b)]
   by_cases c : y % 400 = 0
   ·
    simp [c, h400.2 c]
   ·
    have : ¬ Int.tmod y 400 = 0 := fun h => c (h400.1 h)
    simp [b, c, this]
  ·
   rw [if_neg (fun h => b (h100.1 h))]
   simp [a, b]
 ·
  rw [if_neg (fun h => a (h4.1 h))]
  have c : ¬ y % 400 = 0 := by omega
  have : ¬ Int.tmod y 400 = 0 := fun h => c (h400.1 h)
  simp [a, c, this]
theorem days_eval (k : Nat) (hk : 3 ≤ k) (y m : Int) : date_Days.f k y m = some (daysI y m) := by
 obtain ⟨k, rfl⟩ : ∃ j, k = j + 1 + 1 := ⟨k - 2, by omega⟩
 unfold date_Days.f daysI
 have j0t : date_Days.j0 (k + 1 + 1) y m true = some 0 := by simp [date_Days.j0]
 by_cases a : y < 1970
 ·
  rw [if_pos a, if_pos (.inl a), j0t]
 ·
  rw [if_neg a]
  by_cases b : y > 9999
  ·
   rw [if_pos b, if_pos (by omega), j0t]
  ·
   rw [if_neg b]
   by_cases c : m < 1
   ·
    rw [if_pos c, if_pos (by omega), j0t]
   ·
    rw [if_neg c]
    by_cases d : m > 12
    ·
     rw [if_pos (by omega), decide_eq_true d, j0t]
    ·
     rw [if_neg (by omega), decide_eq_false d]
     simp only [date_Days.j0]
     rw [if_neg (by simp)]
     unfold mlen lp
     by_cases e : m = 2
     ·
      rw [if_pos e, leap_eval]
      simp only [Option.bind_some, date_Days.j1]
      by_cases f : leapP y
      ·
       simp [e, f]
      ·
       simp [e, f]
     ·
      rw [if_neg e]
      simp only [date_Days.j1]
      rw [if_neg (by simp), if_neg e, if_neg e]
      by_cases f4 : m = 4
      ·
       simp [f4]
      ·
       by_cases f6 : m = 6
       ·
        simp [f6]
       ·
        by_cases f9 : m = 9
        ·
         simp [f9]
        ·
         by_cases f11 : m = 11
         ·
          simp [f11]
         ·
          simp [f4, f6, f9, f11]
theorem before_eval (y : Int) (h0 : 1 ≤ y) (h1 : y ≤ 20000) : date_before.f y = some (ybef y) := by
 unfold date_before.f ybef
 have e1 : wrap64 (y - 1) = y - 1 := w64 (by omega) (by omega)
 rw [e1, tdiv_pos (by omega), tdiv_pos (by omega), tdiv_pos (by omega)]
 rw [w64 (x := (y - 1) * 365) (by omega) (by omega), w64 (x := (y - 1) / 4) (by omega) (by omega), w64 (x := (y - 1) / 100) (by omega) (by omega), w64 (x := (y - 1) / 400) (by omega) (by omega), w64 (x := (y - 1) * 365 + (y - 1) / 4) (by omega) (by omega), w64 (x := (y - 1) * 365 + (y - 1) / 4 - (y - 1) / 100) (by omega) (by omega), w64 (x := (y - 1) * 365 + (y - 1) / 4 - (y - 1) / 100 + (y - 1) / 400) (by omega) (by omega), w64 (by omega) (by omega)]

theorem daysI_in {y m : Int} (h0 : 1970 ≤ y) (h1 : y ≤ 9999) (h2 : 1 ≤ m) (h3 : m ≤ 12) : daysI y m = mlen y m := by
 unfold daysI; rw [if_neg (by omega)]
theorem split_l1 (t y D : Int) (ht0 : 0 ≤ t) (hD : D = t / 86400) (hy0 : 1970 ≤ y) (hy1 : y ≤ 9999) (hl : ybef y ≤ D) (hu : D < ybef (y + 1)) : ∀ (n : Nat) (m : Int) (k : Nat), m + n = 12 → 1 ≤ m → 0 ≤ D - ybef y - mbef y m → n + 10 < k →
  ∃ m' d', date_Split.l1 k t y m (D - ybef y - mbef y m) = some (y, m', d', t % 86400, 0) ∧ IsDate t y m' d' (t % 86400) := by
 intro n
 induction n with
 | zero =>
  intro m k hm h1 hr hk
  obtain rfl : m = 12 := by omega
  obtain ⟨k, rfl⟩ : ∃ j, k = j + 1 := ⟨k - 1, by omega⟩
  have hs := mbef_succ y 12 (by omega) (by omega)
  have h13 := mbef_13 y
  have hys := ybef_succ y
  have hb := mbef_bd y 12 (by omega) (by omega)
  have hlen := mlen_bd y 12
  have e13 : mbef y (12 + 1) = mbef y 13 := rfl
  refine ⟨12, D - ybef y - mbef y 12 + 1, ?_, ⟨hy0, hy1, by omega, by omega, by omega, by omega, by omega, by omega, by omega⟩⟩
  simp only [date_Split.l1]
  rw [days_eval k (by omega)]
  simp only [Option.bind_some]
  rw [daysI_in hy0 hy1 (by omega) (by omega), if_neg (by omega), w64 (by omega) (by omega), tmod_pos ht0]
 | succ n ih =>
  intro m k hm h1 hr hk
  obtain ⟨k, rfl⟩ : ∃ j, k = j + 1 := ⟨k - 1, by omega⟩
  have hs := mbef_succ y m (by omega) (by omega)
  have hys := ybef_succ y
  have hlp := lp_01 y
  have hb := mbef_bd y m (by omega) (by omega)
  have hlen := mlen_bd y m
  simp only [date_Split.l1]
  rw [days_eval k (by omega)]
  simp only [Option.bind_some]
  rw [daysI_in hy0 hy1 (by omega) (by omega)]
  by_cases hc : D - ybef y - mbef y m ≥ mlen y m
  ·
   rw [if_pos hc, w64 (x := m + 1) (by omega) (by omega), w64 (by omega) (by omega)]
   have := ih (m + 1) k (by omega) (by omega) (by omega) (by omega)
   rw [hs] at this
   rw [show D - ybef y - mbef y m - mlen y m = D - ybef y - (mbef y m + mlen y m) from by omega]
   exact this
  ·
   rw [if_neg hc, w64 (by omega) (by omega), tmod_pos ht0]
   exact ⟨m, D - ybef y - mbef y m + 1, rfl, ⟨hy0, hy1, by omega, by omega, by omega, by omega, by omega, by omega, by omega⟩⟩
theorem split_l0 (t D : Int) (ht0 : 0 ≤ t) (ht1 : t ≤ 253402300799) (hD : D = t / 86400) : ∀ (n : Nat) (y : Int) (k : Nat), y + n = 9999 → 1970 ≤ y → ybef y ≤ D → n + 40 < k →
  ∃ y' m' d', date_Split.l0 k t y D = some (y', m', d', t % 86400, 0) ∧ IsDate t y' m' d' (t % 86400) := by
 have hmax : ybef 10000 = 2932897 := by decide
 have h70 : ybef 1970 = 0 := by decide
 have fin : ∀ (y : Int) (k : Nat), 1970 ≤ y → y ≤ 9999 → ybef y ≤ D → D < ybef (y + 1) → 30 < k → ∃ y' m' d', ((date_before.f y).bind fun t103 => (date_Split.l1 k t y 1 (wrap64 (D - t103)))) = some (y', m', d', t % 86400, 0) ∧ IsDate t y' m' d' (t % 86400) := by
  intro y k hy0 hy1 hl hu hk
  rw [before_eval y (by omega) (by omega)]
  simp only [Option.bind_some]
  have hyb := ybef_mono (a := 1970) (b := y) hy0
  have hys := ybef_succ y
  rw [w64 (by omega) (by omega)]
  have := split_l1 t y D ht0 hD hy0 hy1 hl hu 11 1 k (by omega) (by omega) (by rw [mbef_1]; omega) (by omega)
  rw [mbef_1] at this
  simp only [Int.sub_zero] at this
  obtain ⟨m', d', h1, h2⟩ := this
  exact ⟨y, m', d', h1, h2⟩
 intro n
 induction n with
 | zero =>
  intro y k hy h1 hl hk
  obtain rfl : y = 9999 := by omega
  obtain ⟨k, rfl⟩ : ∃ j, k = j + 1 := ⟨k - 1, by omega⟩
  simp only [date_Split.l0]
  rw [w64 (x := (9999 : Int) + 1) (by omega) (by omega), before_eval (9999 + 1) (by omega) (by omega)]
  simp only [Option.bind_some]
  have e : ybef (9999 + 1) = ybef 10000 := rfl
  have hnle : ¬ ybef (9999 + 1) ≤ D := by rw [e, hmax]; omega
  rw [if_neg hnle]
  exact fin 9999 k (by omega) (by omega) hl (Int.not_le.1 hnle) (by omega)
 | succ n ih =>
  intro y k hy h1 hl hk
  obtain ⟨k, rfl⟩ : ∃ j, k = j + 1 := ⟨k - 1, by omega⟩
  simp only [date_Split.l0]
  rw [w64 (x := y + 1) (by omega) (by omega), before_eval (y + 1) (by omega) (by omega)]
  simp only [Option.bind_some]
  by_cases hc : ybef (y + 1) ≤ D
  ·
   rw [if_pos hc]
   exact ih (y + 1) k (by omega) (by omega) hc (by omega)
  ·
   rw [if_neg hc]
   exact fin y k h1 (by omega) hl (by omega) (by omega)
def KD : Nat := 9000
theorem split_eval (t : Int) (ht0 : 0 ≤ t) (ht1 : t ≤ 253402300799) (k : Nat) (hk : KD ≤ k) : ∃ y m d, date_Split.f k t = some (y, m, d, t % 86400, 0) ∧ IsDate t y m d (t % 86400) := by
 unfold KD at hk
 obtain ⟨k, rfl⟩ : ∃ j, k = j + 1 := ⟨k - 1, by omega⟩
 unfold date_Split.f
 rw [if_neg (by omega), decide_eq_false (by omega)]
 simp only [date_Split.j0]
 rw [if_neg (by simp), tdiv_pos ht0, w64 (x := t / 86400) (by omega) (by omega), tdiv_pos (by omega), w64 (x := t / 86400 / 366) (by omega) (by omega), w64 (by omega) (by omega)]
 refine split_l0 t (t / 86400) ht0 ht1 rfl (9999 - (1970 + t / 86400 / 366)).toNat _ k (by omega) (by omega) ?_ (by omega)
 unfold ybef
 omega
theorem IsDate.exists (t : Int) (ht0 : 0 ≤ t) (ht1 : t ≤ 253402300799) : ∃ y m d, IsDate t y m d (t % 86400) := by
 obtain ⟨y, m, d, _, h⟩ := split_eval t ht0 ht1 KD (Nat.le_refl _)
 exact ⟨y, m, d, h⟩
theorem split_of {t y m d r : Int} (h : IsDate t y m d r) (k : Nat) (hk : KD ≤ k) : date_Split.f k t = some (y, m, d, r, 0) := by
 obtain ⟨y', m', d', e, h'⟩ := split_eval t h.range.1 h.range.2 k hk
 obtain ⟨rfl, rfl, rfl, rfl⟩ := h.unique h'
 exact e
/-- The text of a date. -/
def dateB (t y m d r : Int) : List UInt8 := partsB (showParts t y m d r)
theorem show_of {t y m d r : Int} (h : IsDate t y m d r) (k : Nat) (hk : KD ≤ k) : date_Show.f k t = some (⟨(dateB t y m d r).toArray⟩, 0) := by
 unfold date_Show.f
 rw [split_of h k hk]
 simp only [Option.bind_some]
 have hr := h.range
 have hm := mlen_bd y m
 rw [if_pos trivial, if_pos ⟨hr, ⟨by have := h.y0; omega, h.y1⟩, ⟨h.m0, h.m1⟩, ⟨by have := h.d0; omega, by have := h.d1; omega⟩, h.r0, by have := h.r1; omega⟩]
 rfl
/-! ## Texts as lists of bytes -/
theorem bt_list (s : ByteArray) (i : Nat) (h : i < s.data.toList.length) : bt s (i : Int) = ((s.data.toList[i]).toNat : Int) := by
 have h' : i < s.size := by simpa using h
 unfold bt
 simp only [Int.toNat_natCast]
 rw [dif_pos h']
 rfl
theorem size_list (s : ByteArray) : s.size = s.data.toList.length := by simp
theorem ext_list (s : ByteArray) (a b : Nat) : (s.extract a b).data.toList = (s.data.toList.drop a).take (b - a) := by
 rw [ByteArray.data_extract, Array.toList_extract]
theorem toList_eq (s : ByteArray) : s.toList = s.data.toList := ByteArray.toList_eq s
theorem mk_list (l : List UInt8) : (⟨l.toArray⟩ : ByteArray).data.toList = l := by simp
theorem bytes_ext {a b : ByteArray} (h : a.data.toList = b.data.toList) : a = b := by
 cases a; cases b
 simp at h
 simpa using h
def digitsL : List UInt8 → Int → Int
 | [], n => n
 | c :: l, n => if c.toNat < 48 ∨ 57 < c.toNat then -1 else digitsL l (wrap64 (wrap64 (10 * n) + (((c.toNat : Int) - 48) % 256)))
theorem digits_l0 (s : ByteArray) (hs : s.size ≤ 1000) : ∀ (d : Nat) (i : Nat) (n : Int) (k : Nat), i + d = s.size → d < k →
  date_digits.l0 k s n (s.size : Int) (i : Int) = some (digitsL (s.data.toList.drop i) n) := by
 intro d
 induction d with
 | zero =>
  intro i n k hi hk
  obtain ⟨k, rfl⟩ : ∃ j, k = j + 1 := ⟨k - 1, by omega⟩
  simp only [date_digits.l0]
  rw [if_neg (by omega), List.drop_of_length_le (by rw [← size_list]; omega)]
  rfl
 | succ d ih =>
  intro i n k hi hk
  obtain ⟨k, rfl⟩ : ∃ j, k = j + 1 := ⟨k - 1, by omega⟩
  have hlt : i < s.data.toList.length := by rw [← size_list]; omega
  simp only [date_digits.l0]
  rw [if_pos (by omega), if_pos (by omega), if_pos (by omega), List.drop_eq_getElem_cons hlt, bt_list s i hlt]
  simp only [digitsL]
  by_cases h1 : (s.data.toList[i]).toNat < 48
  ·
   rw [if_pos (by omega), if_pos (.inl h1)]
  ·
   rw [if_neg (by omega)]
   by_cases h2 : 57 < (s.data.toList[i]).toNat
   ·
    rw [if_pos (by omega), if_pos (.inr h2)]
   ·
    rw [if_neg (by omega), if_neg (by omega)]
    have := ih (i + 1) (wrap64 (wrap64 (10 * n) + (((s.data.toList[i]).toNat : Int) - 48) % 256)) k (by omega) (by omega)
    rw [← this, w64 (x := (i : Int) + 1) (by omega) (by omega)]
    rfl
theorem digits_eval (s : ByteArray) (hs : s.size ≤ 1000) (k : Nat) (hk : KD ≤ k) : date_digits.f k s = some (digitsL s.data.toList 0) := by
 unfold KD at hk
 unfold date_digits.f
 have := digits_l0 s hs s.size 0 0 k (by omega) (by omega)
 simpa using this
/-- A sign of a digit. -/
def dg (x : Int) : UInt8 := (48 + x % 10).toNat.toUInt8
theorem dg_nat (x : Int) : ((dg x).toNat : Int) = 48 + x % 10 := by
 unfold dg
 have h0 : 0 ≤ x % 10 := by omega
 have h1 : x % 10 < 10 := by omega
 generalize x % 10 = z at *
 obtain ⟨n, rfl⟩ := Int.eq_ofNat_of_zero_le h0
 have e : ((48 : Int) + (n : Int)).toNat = 48 + n := by omega
 rw [e]
 simp
 omega
theorem digitsL_dg (x n : Int) (l : List UInt8) (h0 : 0 ≤ n) (h1 : n ≤ 1000000) : digitsL (dg x :: l) n = digitsL l (10 * n + x % 10) := by
 have e := dg_nat x
 have b0 : 0 ≤ x % 10 := by omega
 have b1 : x % 10 < 10 := by omega
 simp only [digitsL]
 rw [if_neg (by omega), w64 (x := 10 * n) (by omega) (by omega), e, show (48 + x % 10 - 48) % 256 = x % 10 by omega, w64 (by omega) (by omega)]
theorem numB2 (v : Int) : numB v 10 = [dg (v / 10), dg v] := by
 rw [numB_step _ _ (by omega), numB_step _ _ (by omega), numB_zero _ _ (by omega)]
 unfold dg
 simp
theorem numB4 (v : Int) : numB v 1000 = [dg (v / 1000), dg (v / 100), dg (v / 10), dg v] := by
 rw [numB_step _ _ (by omega), numB_step _ _ (by omega), numB_step _ _ (by omega), numB_step _ _ (by omega), numB_zero _ _ (by omega)]
 unfold dg
 simp
theorem digits2 (v : Int) (h0 : 0 ≤ v) (h1 : v ≤ 99) : digitsL [dg (v / 10), dg v] 0 = v := by
 rw [digitsL_dg _ _ _ (by omega) (by omega), digitsL_dg _ _ _ (by omega) (by omega)]
 simp only [digitsL]
 omega
theorem digits4 (v : Int) (h0 : 0 ≤ v) (h1 : v ≤ 9999) : digitsL [dg (v / 1000), dg (v / 100), dg (v / 10), dg v] 0 = v := by
 rw [digitsL_dg _ _ _ (by omega) (by omega), digitsL_dg _ _ _ (by omega) (by omega), digitsL_dg _ _ _ (by omega) (by omega), digitsL_dg _ _ _ (by omega) (by omega)]
 simp only [digitsL]
 omega
theorem digitsL_bd : ∀ (l : List UInt8) (n b : Int), 0 ≤ n → n ≤ b → b ≤ 100000 → l.length ≤ 1 → (digitsL l n = -1 ∨ (0 ≤ digitsL l n ∧ digitsL l n ≤ 10 * b + 9)) := by
 intro l n b h0 h1 h2 hl
 match l, hl with
 | [], _ => simp only [digitsL]; omega
 | [c], _ =>
  simp only [digitsL]
  split
  ·
   exact .inl rfl
  ·
   rename_i hc
   rw [w64 (x := 10 * n) (by omega) (by omega), w64 (by omega) (by omega)]
   omega
theorem digitsL_cons (c : UInt8) (l : List UInt8) (n b : Int) (h0 : 0 ≤ n) (h1 : n ≤ b) (h2 : b ≤ 100000) : digitsL (c :: l) n = -1 ∨ ∃ n', 0 ≤ n' ∧ n' ≤ 10 * b + 9 ∧ digitsL (c :: l) n = digitsL l n' := by
 simp only [digitsL]
 split
 ·
  exact .inl rfl
 ·
  rename_i hc
  rw [w64 (x := 10 * n) (by omega) (by omega)]
  refine .inr ⟨_, ?_, ?_, rfl⟩ <;> rw [w64 (by omega) (by omega)] <;> omega
theorem digits2_bd (a b : UInt8) : -1 ≤ digitsL [a, b] 0 ∧ digitsL [a, b] 0 ≤ 99 := by
 rcases digitsL_cons a [b] 0 0 (by omega) (by omega) (by omega) with h | ⟨n, h0, h1, h⟩
 ·
  omega
 ·
  rw [h]
  rcases digitsL_bd [b] n 9 h0 (by omega) (by omega) (by simp) with h | h <;> omega
theorem digits4_bd (a b c d : UInt8) : -1 ≤ digitsL [a, b, c, d] 0 ∧ digitsL [a, b, c, d] 0 ≤ 9999 := by
 rcases digitsL_cons a [b, c, d] 0 0 (by omega) (by omega) (by omega) with h | ⟨n, h0, h1, h⟩
 ·
  omega
 ·
  rw [h]
  rcases digitsL_cons b [c, d] n 9 h0 (by omega) (by omega) with h | ⟨n, h0, h1, h⟩
  ·
   omega
  ·
   rw [h]
   rcases digitsL_cons c [d] n 99 h0 (by omega) (by omega) with h | ⟨n, h0, h1, h⟩
   ·
    omega
   ·
    rw [h]
    rcases digitsL_bd [d] n 999 h0 (by omega) (by omega) (by simp) with h | h <;> omega
/-! ## The text of a date, sign by sign -/
def wdB (q : Int) : List UInt8 := if q = 0 then [84, 104, 117] else if q = 1 then [70, 114, 105] else if q = 2 then [83, 97, 116] else if q = 3 then [83, 117, 110] else if q = 4 then [77, 111, 110] else if q = 5 then [84, 117, 101] else [87, 101, 100]
def moB (m : Int) : List UInt8 := if m = 1 then [74, 97, 110] else if m = 2 then [70, 101, 98] else if m = 3 then [77, 97, 114] else if m = 4 then [65, 112, 114] else if m = 5 then [77, 97, 121] else if m = 6 then [74, 117, 110] else if m = 7 then [74, 117, 108] else if m = 8 then [65, 117, 103] else if m = 9 then [83, 101, 112] else if m = 10 then [79, 99, 116] else if m = 11 then [78, 111, 118] else [68, 101, 99]
theorem wd_ext (q : Int) (h0 : 0 ≤ q) (h1 : q ≤ 6) : (weekB.extract (q * 3).toNat (q * 3 + 3).toNat).data.toList = wdB q := by
 have hq : q = 0 ∨ q = 1 ∨ q = 2 ∨ q = 3 ∨ q = 4 ∨ q = 5 ∨ q = 6 := by omega
 rw [ext_list]
 rcases hq with rfl | rfl | rfl | rfl | rfl | rfl | rfl <;> rfl
theorem mo_ext (m : Int) (h0 : 1 ≤ m) (h1 : m ≤ 12) : (monthB.extract (3 * m - 3).toNat (3 * m - 3 + 3).toNat).data.toList = moB m := by
 have hm : m = 1 ∨ m = 2 ∨ m = 3 ∨ m = 4 ∨ m = 5 ∨ m = 6 ∨ m = 7 ∨ m = 8 ∨ m = 9 ∨ m = 10 ∨ m = 11 ∨ m = 12 := by omega
 rw [ext_list]
 rcases hm with rfl | rfl | rfl | rfl | rfl | rfl | rfl | rfl | rfl | rfl | rfl | rfl <;> rfl
theorem wd_three (q : Int) : ∃ a b c, wdB q = [a, b, c] := by
 unfold wdB
 repeat' first | exact ⟨_, _, _, rfl⟩ | split
theorem three_of {l : List UInt8} (h : l.length = 3) : ∃ a b c, l = [a, b, c] := by
 match l, h with
 | [a, b, c], _ => exact ⟨a, b, c, rfl⟩
theorem mo_three (m : Int) : ∃ a b c, moB m = [a, b, c] := by
 refine three_of ?_
 unfold moB
 repeat (first | rfl | (rw [apply_ite List.length]; split) | split)
theorem mo_index (m : Int) (h0 : 1 ≤ m) (h1 : m ≤ 12) : Lib.index monthB.data.toList (moB m) = 3 * m - 3 := by
 have hm : m = 1 ∨ m = 2 ∨ m = 3 ∨ m = 4 ∨ m = 5 ∨ m = 6 ∨ m = 7 ∨ m = 8 ∨ m = 9 ∨ m = 10 ∨ m = 11 ∨ m = 12 := by omega
 rcases hm with rfl | rfl | rfl | rfl | rfl | rfl | rfl | rfl | rfl | rfl | rfl | rfl <;> decide +kernel
theorem dateB_eq {t y m d r : Int} (h : IsDate t y m d r) : dateB t y m d r =
  wdB (t / 86400 % 7) ++ [44, 32, dg (d / 10), dg d, 32] ++ moB m ++ [32, dg (y / 1000), dg (y / 100), dg (y / 10), dg y, 32, dg (r / 3600 / 10), dg (r / 3600), 58, dg (r / 60 % 60 / 10), dg (r / 60 % 60), 58, dg (r % 60 / 10), dg (r % 60), 32, 71, 77, 84] := by
 have hr := h.range
 unfold dateB partsB showParts
 simp only [List.map_cons, List.map_nil, PPart.bytes, List.flatten_cons, List.flatten_nil, if_true, if_neg (show ¬ (4 : Int) = 2 by decide), numB2, numB4]
 rw [wd_ext _ (by omega) (by omega), mo_ext _ h.m0 h.m1]
 simp
theorem dateB_len {t y m d r : Int} (h : IsDate t y m d r) : (dateB t y m d r).length = 29 := by
 rw [dateB_eq h]
 obtain ⟨a, b, c, e⟩ := wd_three (t / 86400 % 7)
 obtain ⟨a', b', c', e'⟩ := mo_three m
 rw [e, e']
 rfl

/-! ## Reading a date -/
theorem read_l0 (s : ByteArray) (ix y d h mi se : Int) (hix0 : 0 ≤ ix) (hix1 : ix ≤ 35) (hh0 : 0 ≤ h) (hh1 : h ≤ 23) (hm0 : 0 ≤ mi) (hm1 : mi ≤ 59) (hs0 : 0 ≤ se) (hs1 : se ≤ 59)
  (H : IsDate ((ybef y + mbef y (ix / 3 + 1) + d - 1) * 86400 + (h * 3600 + mi * 60 + se)) y (ix / 3 + 1) d (h * 3600 + mi * 60 + se)) : ∀ (n : Nat) (x : Int) (k : Nat), x + n = ix / 3 + 1 → 1 ≤ x → KD + n + 2 ≤ k →
  date_Read.l0 k s ix y h mi se (ybef y + d - 1 + mbef y x) x =
   if dateB ((ybef y + mbef y (ix / 3 + 1) + d - 1) * 86400 + (h * 3600 + mi * 60 + se)) y (ix / 3 + 1) d (h * 3600 + mi * 60 + se) = s.data.toList then some ((ybef y + mbef y (ix / 3 + 1) + d - 1) * 86400 + (h * 3600 + mi * 60 + se), 0) else some (0, 14) := by
 have hr := H.range
 have hyb := ybef_mono (a := 1970) (b := y) H.y0
 have hyt := ybef_mono (a := y) (b := 9999) H.y1
 have h70 : ybef 1970 = 0 := by decide
 have h99 : ybef 9999 = 2932532 := by decide
 have hd1 := (mlen_bd y (ix / 3 + 1)).2
 have := H.d0; have := H.d1
 intro n
 induction n with
 | zero =>
  intro x k hx h1 hk
  obtain ⟨k, rfl⟩ : ∃ j, k = j + 1 := ⟨k - 1, by omega⟩
  obtain rfl : x = ix / 3 + 1 := by omega
  have hb := mbef_bd y (ix / 3 + 1) (by omega) (by omega)
  simp only [date_Read.l0]
  rw [tdiv_pos hix0, w64 (x := ix / 3) (by omega) (by omega), if_neg (by omega)]
  have e1 : wrap64 ((ybef y + d - 1 + mbef y (ix / 3 + 1)) * 86400) = (ybef y + d - 1 + mbef y (ix / 3 + 1)) * 86400 := w64 (by omega) (by omega)
  have e2 : wrap64 (h * 3600) = h * 3600 := w64 (by omega) (by omega)
  have e3 : wrap64 (mi * 60) = mi * 60 := w64 (by omega) (by omega)
  rw [e1, e2, e3]
  have e4 : wrap64 ((ybef y + d - 1 + mbef y (ix / 3 + 1)) * 86400 + h * 3600) = (ybef y + d - 1 + mbef y (ix / 3 + 1)) * 86400 + h * 3600 := w64 (by omega) (by omega)
  rw [e4]
  have e5 : wrap64 ((ybef y + d - 1 + mbef y (ix / 3 + 1)) * 86400 + h * 3600 + mi * 60) = (ybef y + d - 1 + mbef y (ix / 3 + 1)) * 86400 + h * 3600 + mi * 60 := w64 (by omega) (by omega)
  rw [e5]
  have e6 : wrap64 ((ybef y + d - 1 + mbef y (ix / 3 + 1)) * 86400 + h * 3600 + mi * 60 + se) = (ybef y + mbef y (ix / 3 + 1) + d - 1) * 86400 + (h * 3600 + mi * 60 + se) := by rw [w64 (by omega) (by omega)]; omega
  rw [e6, show_of H k (by omega)]
  simp only [Option.bind_some, toList_eq, mk_list]
 | succ n ih =>
  intro x k hx h1 hk
  obtain ⟨k, rfl⟩ : ∃ j, k = j + 1 := ⟨k - 1, by omega⟩
  have hb := mbef_bd y x (by omega) (by omega)
  have hsu := mbef_succ y x (by omega) (by omega)
  have hml := mlen_bd y x
  simp only [date_Read.l0]
  rw [tdiv_pos hix0, w64 (x := ix / 3) (by omega) (by omega), if_pos (by omega), days_eval k (by unfold KD at hk; omega)]
  simp only [Option.bind_some]
  rw [daysI_in H.y0 H.y1 (by omega) (by omega), w64 (x := x + 1) (by omega) (by omega), w64 (by omega) (by omega)]
  have := ih (x + 1) k (by omega) (by omega) (by omega)
  rw [hsu] at this
  rw [show ybef y + d - 1 + mbef y x + mlen y x = ybef y + d - 1 + (mbef y x + mlen y x) from by omega]
  exact this
/-- What stands at the places of a text of 29 bytes. -/
def fIx (s : ByteArray) : Int := Lib.index monthB.data.toList ((s.data.toList.drop 8).take 3)
def fN (s : ByteArray) (a n : Nat) : Int := digitsL ((s.data.toList.drop a).take n) 0
def fBad (s : ByteArray) : Prop := fIx s < 0 ∨ fIx s % 3 ≠ 0 ∨ fN s 5 2 < 1 ∨ daysI (fN s 12 4) (fIx s / 3 + 1) < fN s 5 2 ∨ fN s 17 2 < 0 ∨ 23 < fN s 17 2 ∨ fN s 20 2 < 0 ∨ 59 < fN s 20 2 ∨ fN s 23 2 < 0 ∨ 59 < fN s 23 2
theorem fIx_le (s : ByteArray) : fIx s ≤ 36 := by
 have := Lib.index_le monthB.data.toList ((s.data.toList.drop 8).take 3)
 exact this
theorem read_small (s : ByteArray) (h : s.size ≠ 29) (k : Nat) : date_Read.f k s = some (0, 14) := by
 unfold date_Read.f
 rw [if_neg (by omega)]
theorem read_j0t (s : ByteArray) (a b c d e f : Int) (k : Nat) (hk : 1 ≤ k) : date_Read.j0 k s a b c d e f true = some (0, 14) := by
 obtain ⟨k, rfl⟩ : ∃ j, k = j + 1 := ⟨k - 1, by omega⟩
 simp [date_Read.j0]
theorem read_29 (s : ByteArray) (h : s.size = 29) (k : Nat) (hk : KD ≤ k) :
  (fBad s → date_Read.f k s = some (0, 14)) ∧ (¬ fBad s → date_Read.f k s = date_Read.j0 k s (fIx s) (fN s 12 4) (fN s 5 2) (fN s 17 2) (fN s 20 2) (fN s 23 2) false) := by
 have hk1 : 1 ≤ k := by unfold KD at hk; omega
 have dig : ∀ a b, b ≤ 29 → date_digits.f k (s.extract a b) = some (fN s a (b - a)) := by
  intro a b hb
  rw [digits_eval _ (by rw [ByteArray.size_extract]; omega) k hk, ext_list]
  rfl
 have hidx : strings_Index.f (⟨#[74, 97, 110, 70, 101, 98, 77, 97, 114, 65, 112, 114, 77, 97, 121, 74, 117, 110, 74, 117, 108, 65, 117, 103, 83, 101, 112, 79, 99, 116, 78, 111, 118, 68, 101, 99]⟩ : ByteArray) (s.extract 8 11) = some (fIx s) := by
  unfold strings_Index.f
  rw [if_pos (by decide), ext_list]
  rfl
 have hile := fIx_le s
 unfold date_Read.f
 rw [if_pos (by omega), if_pos (by omega), if_pos (by omega), hidx]
 simp only [Option.bind_some]
 rw [if_pos (by omega), if_pos (by omega), dig 12 16 (by omega)]
 simp only [Option.bind_some]
 rw [if_pos (by omega), if_pos (by omega), dig 5 7 (by omega)]
 simp only [Option.bind_some]
 rw [if_pos (by omega), if_pos (by omega), dig 17 19 (by omega)]
 simp only [Option.bind_some]
 rw [if_pos (by omega), if_pos (by omega), dig 20 22 (by omega)]
 simp only [Option.bind_some]
 rw [if_pos (by omega), if_pos (by omega), dig 23 25 (by omega)]
 simp only [Option.bind_some, Nat.reduceSub]
 unfold fBad
 by_cases c1 : fIx s < 0
 ·
  rw [if_pos c1, read_j0t _ _ _ _ _ _ _ k hk1]
  exact ⟨fun _ => rfl, fun hn => absurd (.inl c1) hn⟩
 ·
  rw [if_neg c1]
  by_cases c2 : fIx s % 3 = 0
  ·
   rw [if_pos ((tmod_zero _ _).2 c2)]
   by_cases c3 : fN s 5 2 < 1
   ·
    rw [if_pos c3, read_j0t _ _ _ _ _ _ _ k hk1]
    exact ⟨fun _ => rfl, fun hn => absurd (.inr (.inr (.inl c3))) hn⟩
   ·
    rw [if_neg c3, tdiv_pos (by omega), w64 (x := fIx s / 3) (by omega) (by omega), w64 (by omega) (by omega), days_eval k (by unfold KD at hk; omega)]
    simp only [Option.bind_some]
    by_cases c4 : fN s 5 2 > daysI (fN s 12 4) (fIx s / 3 + 1)
    ·
     rw [if_pos c4, read_j0t _ _ _ _ _ _ _ k hk1]
     exact ⟨fun _ => rfl, fun hn => absurd (.inr (.inr (.inr (.inl c4)))) hn⟩
    ·
     rw [if_neg c4]
     by_cases c5 : fN s 17 2 < 0
     ·
      rw [if_pos c5, read_j0t _ _ _ _ _ _ _ k hk1]
      exact ⟨fun _ => rfl, fun hn => absurd (.inr (.inr (.inr (.inr (.inl c5))))) hn⟩
     ·
      rw [if_neg c5]
      by_cases c6 : fN s 17 2 > 23
      ·
       rw [if_pos c6, read_j0t _ _ _ _ _ _ _ k hk1]
       exact ⟨fun _ => rfl, fun hn => absurd (.inr (.inr (.inr (.inr (.inr (.inl c6)))))) hn⟩
      ·
       rw [if_neg c6]
       by_cases c7 : fN s 20 2 < 0
       ·
        rw [if_pos c7, read_j0t _ _ _ _ _ _ _ k hk1]
        exact ⟨fun _ => rfl, fun hn => absurd (.inr (.inr (.inr (.inr (.inr (.inr (.inl c7))))))) hn⟩
       ·
        rw [if_neg c7]
        by_cases c8 : fN s 20 2 > 59
        ·
         rw [if_pos c8, read_j0t _ _ _ _ _ _ _ k hk1]
         exact ⟨fun _ => rfl, fun hn => absurd (.inr (.inr (.inr (.inr (.inr (.inr (.inr (.inl c8)))))))) hn⟩
        ·
         rw [if_neg c8]
         by_cases c9 : fN s 23 2 < 0
         ·
          rw [if_pos c9, read_j0t _ _ _ _ _ _ _ k hk1]
          exact ⟨fun _ => rfl, fun hn => absurd (.inr (.inr (.inr (.inr (.inr (.inr (.inr (.inr (.inl c9))))))))) hn⟩
         ·
          rw [if_neg c9]
          by_cases c10 : fN s 23 2 > 59
          ·
           rw [decide_eq_true c10, read_j0t _ _ _ _ _ _ _ k hk1]
           exact ⟨fun _ => rfl, fun hn => absurd (.inr (.inr (.inr (.inr (.inr (.inr (.inr (.inr (.inr c10))))))))) hn⟩
          ·
           rw [decide_eq_false c10]
           refine ⟨fun hb => ?_, fun _ => rfl⟩
           omega
  ·
   rw [if_neg (fun h => c2 ((tmod_zero _ _).1 h)), read_j0t _ _ _ _ _ _ _ k hk1]
   exact ⟨fun _ => rfl, fun hn => absurd (.inr (.inl c2)) hn⟩
theorem read_good (s : ByteArray) (h : s.size = 29) (hg : ¬ fBad s) (k : Nat) (hk : KD + 20 ≤ k) :
  ∃ t y m d r, IsDate t y m d r ∧ m = fIx s / 3 + 1 ∧ y = fN s 12 4 ∧ d = fN s 5 2 ∧ r = fN s 17 2 * 3600 + fN s 20 2 * 60 + fN s 23 2 ∧ date_Read.f k s = if dateB t y m d r = s.data.toList then some (t, 0) else some (0, 14) := by
 rw [(read_29 s h k (by omega)).2 hg]
 obtain ⟨k, rfl⟩ : ∃ j, k = j + 1 := ⟨k - 1, by omega⟩
 unfold fBad at hg
 have hdays : fN s 5 2 ≤ daysI (fN s 12 4) (fIx s / 3 + 1) := by omega
 have hin : ¬ (fN s 12 4 < 1970 ∨ 9999 < fN s 12 4 ∨ fIx s / 3 + 1 < 1 ∨ 12 < fIx s / 3 + 1) := by
  intro hn
  unfold daysI at hdays
  rw [if_pos hn] at hdays
  omega
 rw [daysI_in (by omega) (by omega) (by omega) (by omega)] at hdays
 have hml := mlen_bd (fN s 12 4) (fIx s / 3 + 1)
 have H : IsDate ((ybef (fN s 12 4) + mbef (fN s 12 4) (fIx s / 3 + 1) + fN s 5 2 - 1) * 86400 + (fN s 17 2 * 3600 + fN s 20 2 * 60 + fN s 23 2)) (fN s 12 4) (fIx s / 3 + 1) (fN s 5 2) (fN s 17 2 * 3600 + fN s 20 2 * 60 + fN s 23 2) :=
  ⟨by omega, by omega, by omega, by omega, by omega, hdays, by omega, by omega, rfl⟩
 refine ⟨_, _, _, _, _, H, rfl, rfl, rfl, rfl, ?_⟩
 have hyb := ybef_mono (a := 1970) (b := fN s 12 4) H.y0
 have hyt := ybef_mono (a := fN s 12 4) (b := 9999) H.y1
 have h70 : ybef 1970 = 0 := by decide
 have h99 : ybef 9999 = 2932532 := by decide
 simp only [date_Read.j0]
 rw [if_neg (by simp), before_eval _ (by omega) (by omega)]
 simp only [Option.bind_some]
 rw [w64 (x := ybef (fN s 12 4) + fN s 5 2) (by omega) (by omega), w64 (by omega) (by omega)]
 have := read_l0 s (fIx s) (fN s 12 4) (fN s 5 2) (fN s 17 2) (fN s 20 2) (fN s 23 2) (by omega) (by omega) (by omega) (by omega) (by omega) (by omega) (by omega) (by omega) H (fIx s / 3).toNat 1 k (by omega) (by omega) (by omega)
 rw [mbef_1] at this
 simp only [Int.add_zero] at this
 exact this
/-- A date is read as its time. -/
theorem read_date {t y m d r : Int} (h : IsDate t y m d r) (s : ByteArray) (hs : s.data.toList = dateB t y m d r) (k : Nat) (hk : KD + 20 ≤ k) : date_Read.f k s = some (t, 0) := by
 have h29 : s.size = 29 := by rw [size_list, hs, dateB_len h]
 have hr := h.range
 have e := dateB_eq h
 obtain ⟨a1, a2, a3, ea⟩ := wd_three (t / 86400 % 7)
 obtain ⟨b1, b2, b3, eb⟩ := mo_three m
 have hix := mo_index m h.m0 h.m1
 rw [ea, eb] at e
 rw [eb] at hix
 have hd1 := (mlen_bd y m).2
 have hy := h.y0; have hy' := h.y1; have hd := h.d0; have hd' := h.d1; have hr0 := h.r0; have hr1 := h.r1; have hm0 := h.m0; have hm1 := h.m1
 have f1 : fIx s = 3 * m - 3 := by unfold fIx; rw [hs, e]; exact hix
 have f2 : fN s 12 4 = y := by unfold fN; rw [hs, e]; exact digits4 y (by omega) (by omega)
 have f3 : fN s 5 2 = d := by unfold fN; rw [hs, e]; exact digits2 d (by omega) (by omega)
 have f4 : fN s 17 2 = r / 3600 := by unfold fN; rw [hs, e]; exact digits2 (r / 3600) (by omega) (by omega)
 have f5 : fN s 20 2 = r / 60 % 60 := by unfold fN; rw [hs, e]; exact digits2 (r / 60 % 60) (by omega) (by omega)
 have f6 : fN s 23 2 = r % 60 := by unfold fN; rw [hs, e]; exact digits2 (r % 60) (by omega) (by omega)
 have hg : ¬ fBad s := by
  unfold fBad
  rw [f1, f2, f3, f4, f5, f6, show (3 * m - 3) / 3 + 1 = m by omega, daysI_in hy hy' hm0 hm1]
  omega
 obtain ⟨t', y', m', d', r', H', em, ey, ed, er, ef⟩ := read_good s h29 hg k hk
 rw [f1] at em; rw [f2] at ey; rw [f3] at ed; rw [f4, f5, f6] at er
 obtain rfl : m' = m := by omega
 subst ey; subst ed
 obtain rfl : r' = r := by omega
 obtain rfl : t' = t := by rw [H'.eq, h.eq]
 rw [ef, hs, if_pos rfl]
/-- What is read is the date of a time, or refused. -/
theorem read_any (s : ByteArray) (k : Nat) (hk : KD + 20 ≤ k) :
  (date_Read.f k s = some (0, 14) ∧ ∀ t y m d r, IsDate t y m d r → s.data.toList ≠ dateB t y m d r) ∨ ∃ t y m d r, IsDate t y m d r ∧ s.data.toList = dateB t y m d r ∧ date_Read.f k s = some (t, 0) := by
 by_cases hx : ∃ t y m d r, IsDate t y m d r ∧ s.data.toList = dateB t y m d r
 ·
  obtain ⟨t, y, m, d, r, h, e⟩ := hx
  exact .inr ⟨t, y, m, d, r, h, e, read_date h s e k hk⟩
 ·
  refine .inl ⟨?_, fun t y m d r h e => hx ⟨t, y, m, d, r, h, e⟩⟩
  by_cases h29 : s.size = 29
  ·
   by_cases hb : fBad s
   ·
    exact (read_29 s h29 k (by omega)).1 hb
   ·
    obtain ⟨t, y, m, d, r, H, _, _, _, _, ef⟩ := read_good s h29 hb k hk
    rw [ef, if_neg (fun e => hx ⟨t, y, m, d, r, H, e.symm⟩)]
  ·
   exact read_small s h29 k
/-! ## The document's days -/
theorem leap_ref (y : Int) : pantryref02_Leap.f y = some (decide (leapP y)) := by
 have h4 : Int.tmod y 4 = 0 ↔ y % 4 = 0 := tmod_zero y 4
 have h100 : Int.tmod y 100 = 0 ↔ y % 100 = 0 := tmod_zero y 100
 have h400 : Int.tmod y 400 = 0 ↔ y % 400 = 0 := tmod_zero y 400
 unfold pantryref02_Leap.f leapP
 by_cases c : y % 400 = 0
 ·
  rw [if_pos (h400.2 c)]
  simp [c]
 ·
  rw [if_neg (fun h => c (h400.1 h))]
  by_cases a : y % 4 = 0
  ·
   rw [if_pos (h4.2 a)]
   by_cases b : y % 100 = 0
   ·
    simp [a, b, c, h100.2 b]
   ·
    have : ¬ Int.tmod y 100 = 0 := fun h => b (h100.1 h)
    simp [a, b, this]
  ·
   rw [if_neg (fun h => a (h4.1 h))]
   simp [a, c]
theorem days_ref (y m : Int) : pantryref02_Days.f y m = some (daysI y m) := by
 unfold pantryref02_Days.f daysI
 by_cases h : y < 1970 ∨ 9999 < y ∨ m < 1 ∨ 12 < m
 ·
  rw [if_pos h, if_pos h]
 ·
  rw [if_neg h, if_neg h, leap_ref]
  simp only [Option.bind_some]
  have hm : m = 1 ∨ m = 2 ∨ m = 3 ∨ m = 4 ∨ m = 5 ∨ m = 6 ∨ m = 7 ∨ m = 8 ∨ m = 9 ∨ m = 10 ∨ m = 11 ∨ m = 12 := by omega
  unfold mlen lp
  by_cases hl : leapP y
  ·
   rcases hm with rfl | rfl | rfl | rfl | rfl | rfl | rfl | rfl | rfl | rfl | rfl | rfl <;> simp [hl, refTab]
  ·
   rcases hm with rfl | rfl | rfl | rfl | rfl | rfl | rfl | rfl | rfl | rfl | rfl | rfl <;> simp [hl, refTab]

/-! ## The reference's date, year by year -/
theorem ref_l1 (t y D : Int) (ht0 : 0 ≤ t) (hD : D = t / 86400) (hy0 : 1970 ≤ y) (hy1 : y ≤ 9999) (hl : ybef y ≤ D) (hu : D < ybef (y + 1)) (hu2 : D ≤ 3000000) : ∀ (n : Nat) (m : Int) (k : Nat), m + n = 12 → 1 ≤ m → 0 ≤ D - ybef y - mbef y m → n < k →
  ∃ m' d', pantryref02_Split.l1 k t (D - ybef y - mbef y m) y m = some (y, m', d', t % 86400) ∧ IsDate t y m' d' (t % 86400) := by
 have hyb := ybef_mono (a := 1970) (b := y) hy0
 have h70 : ybef 1970 = 0 := by decide
 intro n
 induction n with
 | zero =>
  intro m k hm h1 hr hk
  obtain rfl : m = 12 := by omega
  obtain ⟨k, rfl⟩ : ∃ j, k = j + 1 := ⟨k - 1, by omega⟩
  have hs := mbef_succ y 12 (by omega) (by omega)
  have h13 := mbef_13 y
  have hys := ybef_succ y
  have hb := mbef_bd y 12 (by omega) (by omega)
  have hlen := mlen_bd y 12
  have e13 : mbef y (12 + 1) = mbef y 13 := rfl
  refine ⟨12, D - ybef y - mbef y 12 + 1, ?_, ⟨hy0, hy1, by omega, by omega, by omega, by omega, by omega, by omega, by omega⟩⟩
  simp only [pantryref02_Split.l1]
  rw [days_ref]
  simp only [Option.bind_some]
  rw [daysI_in hy0 hy1 (by omega) (by omega), if_neg (by omega), w64 (by omega) (by omega), tmod_pos ht0]
 | succ n ih =>
  intro m k hm h1 hr hk
  obtain ⟨k, rfl⟩ : ∃ j, k = j + 1 := ⟨k - 1, by omega⟩
  have hs := mbef_succ y m (by omega) (by omega)
  have hys := ybef_succ y
  have hlp := lp_01 y
  have hb := mbef_bd y m (by omega) (by omega)
  have hlen := mlen_bd y m
  simp only [pantryref02_Split.l1]
  rw [days_ref]
  simp only [Option.bind_some]
  rw [daysI_in hy0 hy1 (by omega) (by omega)]
  by_cases hc : D - ybef y - mbef y m ≥ mlen y m
  ·
   rw [if_pos hc, w64 (x := m + 1) (by omega) (by omega), w64 (by omega) (by omega)]
   have := ih (m + 1) k (by omega) (by omega) (by omega) (by omega)
   rw [hs] at this
   rw [show D - ybef y - mbef y m - mlen y m = D - ybef y - (mbef y m + mlen y m) from by omega]
   exact this
  ·
   rw [if_neg hc, w64 (by omega) (by omega), tmod_pos ht0]
   exact ⟨m, D - ybef y - mbef y m + 1, rfl, ⟨hy0, hy1, by omega, by omega, by omega, by omega, by omega, by omega, by omega⟩⟩
theorem ref_l0 (t D : Int) (ht0 : 0 ≤ t) (ht1 : t ≤ 253402300799) (hD : D = t / 86400) : ∀ (n : Nat) (y : Int) (k : Nat), y + n = 9999 → 1970 ≤ y → ybef y ≤ D → n + 40 < k →
  ∃ y' m' d', pantryref02_Split.l0 k t (D - ybef y) y = some (y', m', d', t % 86400) ∧ IsDate t y' m' d' (t % 86400) := by
 have hmax : ybef 10000 = 2932897 := by decide
 have h70 : ybef 1970 = 0 := by decide
 have fin : ∀ (y : Int) (k : Nat), 1970 ≤ y → y ≤ 9999 → ybef y ≤ D → D < ybef (y + 1) → 30 < k → ∃ y' m' d', pantryref02_Split.j1 k t (D - ybef y) y = some (y', m', d', t % 86400) ∧ IsDate t y' m' d' (t % 86400) := by
  intro y k hy0 hy1 hl hu hk
  obtain ⟨k, rfl⟩ : ∃ j, k = j + 1 := ⟨k - 1, by omega⟩
  simp only [pantryref02_Split.j1]
  have := ref_l1 t y D ht0 hD hy0 hy1 hl hu (by omega) 11 1 k (by omega) (by omega) (by rw [mbef_1]; omega) (by omega)
  rw [mbef_1] at this
  simp only [Int.sub_zero] at this
  obtain ⟨m', d', h1, h2⟩ := this
  exact ⟨y, m', d', h1, h2⟩
 intro n
 induction n with
 | zero =>
  intro y k hy h1 hl hk
  obtain rfl : y = 9999 := by omega
  obtain ⟨k, rfl⟩ : ∃ j, k = j + 1 := ⟨k - 1, by omega⟩
  have h99 : ybef 9999 = 2932532 := by decide
  have hlf : ¬ leapP 9999 := by decide
  simp only [pantryref02_Split.l0]
  rw [leap_ref, decide_eq_false hlf]
  simp only [Option.bind_some]
  rw [if_neg (by simp), if_pos (by omega)]
  exact fin 9999 k (by omega) (by omega) hl (by rw [show (9999 : Int) + 1 = 10000 by rfl]; omega) (by omega)
 | succ n ih =>
  intro y k hy h1 hl hk
  obtain ⟨k, rfl⟩ : ∃ j, k = j + 1 := ⟨k - 1, by omega⟩
  have hys := ybef_succ y
  have hyb := ybef_mono (a := 1970) (b := y) h1
  simp only [pantryref02_Split.l0]
  rw [leap_ref]
  simp only [Option.bind_some]
  unfold lp at hys
  by_cases hlf : leapP y
  ·
   rw [if_pos hlf] at hys
   rw [decide_eq_true hlf, if_pos rfl]
   by_cases hc : D - ybef y < 366
   ·
    rw [if_pos hc]
    exact fin y k h1 (by omega) hl (by omega) (by omega)
   ·
    rw [if_neg hc, w64 (x := y + 1) (by omega) (by omega), w64 (by omega) (by omega), show D - ybef y - 366 = D - ybef (y + 1) by omega]
    exact ih (y + 1) k (by omega) (by omega) (by omega) (by omega)
  ·
   rw [if_neg hlf] at hys
   rw [decide_eq_false hlf, if_neg (by simp)]
   by_cases hc : D - ybef y < 365
   ·
    rw [if_pos hc]
    exact fin y k h1 (by omega) hl (by omega) (by omega)
   ·
    rw [if_neg hc, w64 (x := y + 1) (by omega) (by omega), w64 (by omega) (by omega), show D - ybef y - 365 = D - ybef (y + 1) by omega]
    exact ih (y + 1) k (by omega) (by omega) (by omega) (by omega)
theorem split_ref {t y m d r : Int} (h : IsDate t y m d r) (k : Nat) (hk : KD ≤ k) : pantryref02_Split.f k t = some (y, m, d, r) := by
 unfold KD at hk
 have hr := h.range
 unfold pantryref02_Split.f
 rw [tdiv_pos hr.1, w64 (x := t / 86400) (by omega) (by omega)]
 have h70 : ybef 1970 = 0 := by decide
 have := ref_l0 t (t / 86400) hr.1 hr.2 rfl 8029 1970 k (by omega) (by omega) (by omega) (by omega)
 rw [h70, Int.sub_zero] at this
 obtain ⟨y', m', d', e, h'⟩ := this
 obtain ⟨rfl, rfl, rfl, rfl⟩ := h.unique h'
 exact e
theorem rtwo_eq (n : Int) (h0 : 0 ≤ n) (h1 : n ≤ 99) : (rtwo n).data.toList = [dg (n / 10), dg n] := by
 unfold rtwo pantryref02_two.f strOfNums dg
 rw [tdiv_pos h0, tmod_pos h0, w64 (x := n / 10) (by omega) (by omega), w64 (x := 48 + n / 10) (by omega) (by omega), w64 (x := 48 + n % 10) (by omega) (by omega)]
 rw [show (48 + n / 10) % 256 = 48 + n / 10 % 10 by omega, show (48 + n % 10) % 256 = 48 + n % 10 by omega]
 rfl
theorem weekAt_eq (q : Int) (h0 : 0 ≤ q) (h1 : q ≤ 6) : (weekAt q.toNat).data.toList = wdB q := by
 rw [← wd_ext q h0 h1]
 unfold weekAt
 rw [show (q * 3).toNat = q.toNat * 3 by omega, show (q * 3 + 3).toNat = q.toNat * 3 + 3 by omega]
theorem monthAt_eq (m : Int) (h0 : 1 ≤ m) (h1 : m ≤ 12) : (monthAt m.toNat).data.toList = moB m := by
 rw [← mo_ext m h0 h1]
 unfold monthAt
 rw [show (3 * m - 3).toNat = 3 * m.toNat - 3 by omega, show (3 * m - 3 + 3).toNat = 3 * m.toNat - 3 + 3 by omega]
theorem refShowB_eq {t y m d r : Int} (h : IsDate t y m d r) : (refShowB t y m d r).data.toList = dateB t y m d r := by
 have hr := h.range
 have hml := mlen_bd y m
 have hy := h.y0; have hy' := h.y1; have hd := h.d0; have hd' := h.d1; have hr0 := h.r0; have hr1 := h.r1; have hm0 := h.m0; have hm1 := h.m1
 rw [dateB_eq h]
 unfold refShowB
 simp only [ByteArray.data_append, Array.toList_append]
 rw [weekAt_eq _ (by omega) (by omega), monthAt_eq m hm0 hm1, rtwo_eq d (by omega) (by omega), rtwo_eq (y / 100) (by omega) (by omega), rtwo_eq (y % 100) (by omega) (by omega), rtwo_eq (r / 3600) (by omega) (by omega), rtwo_eq (r / 60 % 60) (by omega) (by omega), rtwo_eq (r % 60) (by omega) (by omega)]
 have e1 : dg (y / 100 / 10) = dg (y / 1000) := by unfold dg; rw [show y / 100 / 10 = y / 1000 by omega]
 have e2 : dg (y % 100 / 10) = dg (y / 10) := by unfold dg; rw [show y % 100 / 10 % 10 = y / 10 % 10 by omega]
 have e3 : dg (y % 100) = dg y := by unfold dg; rw [show y % 100 % 10 = y % 10 by omega]
 rw [e1, e2, e3]
 simp
theorem refShow_of {t y m d r : Int} (h : IsDate t y m d r) (k : Nat) (hk : KD ≤ k) : pantryref02_Show.f k t = some (refShowB t y m d r) := by
 have hr := h.range
 have hml := mlen_bd y m
 unfold pantryref02_Show.f
 rw [split_ref h k hk]
 simp only [Option.bind_some]
 rw [if_pos ⟨hr, ⟨by have := h.y0; omega, h.y1⟩, ⟨h.m0, h.m1⟩, ⟨by have := h.d0; omega, by have := h.d1; omega⟩, h.r0, by have := h.r1; omega⟩]

/-! ## Dates that are read, asked for -/
def readV (s : ByteArray) : Int × Int := (date_Read.f (KD + 20) s).getD (0, 14)
theorem read_eval (s : ByteArray) (k : Nat) (hk : KD + 20 ≤ k) : date_Read.f k s = some (readV s) := by
 unfold readV
 rcases read_any s (KD + 20) (Nat.le_refl _) with ⟨e, hn⟩ | ⟨t, y, m, d, r, h, hs, e⟩
 ·
  rw [e]
  rcases read_any s k hk with ⟨e', _⟩ | ⟨t, y, m, d, r, h, hs, _⟩
  ·
   exact e'
  ·
   exact absurd hs (hn t y m d r h)
 ·
  rw [e]
  exact read_date h s hs k hk
/-! ## The document's reading of a date -/
theorem number_l0 (s : ByteArray) (hs : s.size ≤ 1000) (a n : Nat) (h : a + n ≤ s.size) : ∀ (d i : Nat) (v : Int) (k : Nat), i + d = a + n → d < k →
  pantryref12_number.l0 k s (a : Int) (n : Int) v (i : Int) = some (digitsL ((s.data.toList.drop i).take d) v) := by
 have e0 : wrap64 ((a : Int) + (n : Int)) = ((a + n : Nat) : Int) := by rw [w64 (by omega) (by omega)]; omega
 intro d
 induction d with
 | zero =>
  intro i v k hi hk
  obtain ⟨k, rfl⟩ : ∃ j, k = j + 1 := ⟨k - 1, by omega⟩
  simp only [pantryref12_number.l0]
  rw [e0, if_neg (by omega), List.take_zero]
  rfl
 | succ d ih =>
  intro i v k hi hk
  obtain ⟨k, rfl⟩ : ∃ j, k = j + 1 := ⟨k - 1, by omega⟩
  have hlt : i < s.data.toList.length := by rw [← size_list]; omega
  simp only [pantryref12_number.l0]
  rw [e0, if_pos (by omega), if_pos (by omega), if_pos (by omega), List.drop_eq_getElem_cons hlt, List.take_succ_cons, bt_list s i hlt]
  simp only [digitsL]
  by_cases h1 : (s.data.toList[i]).toNat < 48
  ·
   rw [if_pos (by omega), if_pos (.inl h1)]
  ·
   rw [if_neg (by omega)]
   by_cases h2 : 57 < (s.data.toList[i]).toNat
   ·
    rw [if_pos (by omega), if_pos (.inr h2)]
   ·
    rw [if_neg (by omega), if_neg (by omega)]
    have := ih (i + 1) (wrap64 (wrap64 (10 * v) + (((s.data.toList[i]).toNat : Int) - 48) % 256)) k (by omega) (by omega)
    rw [← this, w64 (x := (i : Int) + 1) (by omega) (by omega)]
    rfl
theorem number_eval (s : ByteArray) (hs : s.size ≤ 1000) (a n : Nat) (h : a + n ≤ s.size) (k : Nat) (hk : n < k) : pantryref12_number.f k s (a : Int) (n : Int) = some (fN s a n) := by
 unfold pantryref12_number.f
 exact number_l0 s hs a n h n a 0 k (by omega) hk
theorem four_of {l : List UInt8} (h : l.length = 4) : ∃ a b c d, l = [a, b, c, d] := by
 match l, h with
 | [a, b, c, d], _ => exact ⟨a, b, c, d, rfl⟩
theorem two_of {l : List UInt8} (h : l.length = 2) : ∃ a b, l = [a, b] := by
 match l, h with
 | [a, b], _ => exact ⟨a, b, rfl⟩
theorem fN2_bd (s : ByteArray) (h : s.size = 29) (a : Nat) (ha : a + 2 ≤ 29) : -1 ≤ fN s a 2 ∧ fN s a 2 ≤ 99 := by
 obtain ⟨x, y, e⟩ := two_of (l := (s.data.toList.drop a).take 2) (by rw [List.length_take, List.length_drop, ← size_list]; omega)
 unfold fN
 rw [e]
 exact digits2_bd x y
theorem fN4_bd (s : ByteArray) (h : s.size = 29) (a : Nat) (ha : a + 4 ≤ 29) : -1 ≤ fN s a 4 ∧ fN s a 4 ≤ 9999 := by
 obtain ⟨x, y, z, w, e⟩ := four_of (l := (s.data.toList.drop a).take 4) (by rw [List.length_take, List.length_drop, ← size_list]; omega)
 unfold fN
 rw [e]
 exact digits4_bd x y z w
theorem monGo_bd (x : ByteArray) : ∀ (q i : Nat) (m : Int), 0 ≤ m → m ≤ 12 → i + q ≤ 13 → 0 ≤ monGo x q i m ∧ monGo x q i m ≤ 12 := by
 intro q
 induction q with
 | zero => intro i m h0 h1 _; exact ⟨h0, h1⟩
 | succ q ih =>
  intro i m h0 h1 h
  simp only [monGo]
  split
  ·
   exact ih (i + 1) _ (by omega) (by omega) (by omega)
  ·
   exact ih (i + 1) _ h0 h1 (by omega)
theorem monGo_at (m : Int) (h0 : 1 ≤ m) (h1 : m ≤ 12) : monGo (monthAt m.toNat) 12 1 0 = m := by
 have hm : m = 1 ∨ m = 2 ∨ m = 3 ∨ m = 4 ∨ m = 5 ∨ m = 6 ∨ m = 7 ∨ m = 8 ∨ m = 9 ∨ m = 10 ∨ m = 11 ∨ m = 12 := by omega
 have mo : ∀ q i z, monGo (monthAt m.toNat) (q + 1) i z = monGo (monthAt m.toNat) q (i + 1) (if (monthAt i).data.toList = (monthAt m.toNat).data.toList then (i : Int) else z) := fun q i z => by simp only [monGo, toList_eq]
 rcases hm with rfl | rfl | rfl | rfl | rfl | rfl | rfl | rfl | rfl | rfl | rfl | rfl <;> (rw [mo, mo, mo, mo, mo, mo, mo, mo, mo, mo, mo, mo]; decide +kernel)
theorem date_parts {t y m d r : Int} (h : IsDate t y m d r) (s : ByteArray) (hs : s.data.toList = dateB t y m d r) :
  s.size = 29 ∧ monNo s = m ∧ fN s 12 4 = y ∧ fN s 5 2 = d ∧ fN s 17 2 = r / 3600 ∧ fN s 20 2 = r / 60 % 60 ∧ fN s 23 2 = r % 60 := by
 have h29 : s.size = 29 := by rw [size_list, hs, dateB_len h]
 have e := dateB_eq h
 obtain ⟨a1, a2, a3, ea⟩ := wd_three (t / 86400 % 7)
 obtain ⟨b1, b2, b3, eb⟩ := mo_three m
 rw [ea, eb] at e
 have hd1 := (mlen_bd y m).2
 have hy := h.y0; have hy' := h.y1; have hd := h.d0; have hd' := h.d1; have hr0 := h.r0; have hr1 := h.r1; have hm0 := h.m0; have hm1 := h.m1
 refine ⟨h29, ?_, ?_, ?_, ?_, ?_, ?_⟩
 ·
  have ex : s.extract 8 11 = monthAt m.toNat := by
   apply bytes_ext
   rw [ext_list, monthAt_eq m hm0 hm1, hs, e, eb]
   rfl
  unfold monNo
  rw [ex]
  exact monGo_at m hm0 hm1
 ·
  unfold fN; rw [hs, e]; exact digits4 y (by omega) (by omega)
 ·
  unfold fN; rw [hs, e]; exact digits2 d (by omega) (by omega)
 ·
  unfold fN; rw [hs, e]; exact digits2 (r / 3600) (by omega) (by omega)
 ·
  unfold fN; rw [hs, e]; exact digits2 (r / 60 % 60) (by omega) (by omega)
 ·
  unfold fN; rw [hs, e]; exact digits2 (r % 60) (by omega) (by omega)
/-- The end of it: the time that was counted, if its date is the text. -/
def rEnd (s : ByteArray) (T : Int) (k : Nat) : Option (Int × Bool) := if T < 0 then some (0, false) else if T > 253402300799 then some (0, false) else (pantryref02_Show.f k T).bind fun b => if b.toList = s.toList then some (T, true) else some (0, false)
theorem r12_l1 (s : ByteArray) (h29 : s.size = 29) (y m c : Int) (hy0 : 1970 ≤ y) (hy1 : y ≤ 9999) (hm0 : 1 ≤ m) (hm1 : m ≤ 12) (hc0 : 0 ≤ c) (hc1 : c ≤ 3000000) : ∀ (n : Nat) (x : Int) (k : Nat), x + n = m → 1 ≤ x → KD + n + 2 ≤ k →
  ∃ k', KD ≤ k' ∧ pantryref12_Read.l1 k s m y (c + mbef y x) x = rEnd s ((c + mbef y m) * 86400 + fN s 17 2 * 3600 + fN s 20 2 * 60 + fN s 23 2) k' := by
 intro n
 induction n with
 | zero =>
  intro x k hx h1 hk
  obtain ⟨k, rfl⟩ : ∃ j, k = j + 1 := ⟨k - 1, by omega⟩
  obtain rfl : x = m := by omega
  have hb := mbef_bd y x (by omega) (by omega)
  have b1 := fN2_bd s h29 17 (by omega)
  have b2 := fN2_bd s h29 20 (by omega)
  have b3 := fN2_bd s h29 23 (by omega)
  have hKD : KD = 9000 := rfl
  have n1 : pantryref12_number.f k s 17 2 = some (fN s 17 2) := number_eval s (by omega) 17 2 (by omega) k (by omega)
  have n2 : pantryref12_number.f k s 20 2 = some (fN s 20 2) := number_eval s (by omega) 20 2 (by omega) k (by omega)
  have n3 : pantryref12_number.f k s 23 2 = some (fN s 23 2) := number_eval s (by omega) 23 2 (by omega) k (by omega)
  refine ⟨k, by omega, ?_⟩
  simp only [pantryref12_Read.l1]
  rw [if_neg (by omega), n1]
  simp only [Option.bind_some]
  rw [n2]
  simp only [Option.bind_some]
  rw [n3]
  simp only [Option.bind_some]
  generalize fN s 17 2 = a at *
  generalize fN s 20 2 = b at *
  generalize fN s 23 2 = d at *
  rw [w64 (x := (c + mbef y x) * 86400) (by omega) (by omega), w64 (x := a * 3600) (by omega) (by omega), w64 (x := b * 60) (by omega) (by omega), w64 (x := (c + mbef y x) * 86400 + a * 3600) (by omega) (by omega),
   w64 (x := (c + mbef y x) * 86400 + a * 3600 + b * 60) (by omega) (by omega), w64 (x := (c + mbef y x) * 86400 + a * 3600 + b * 60 + d) (by omega) (by omega)]
  rfl
 | succ n ih =>
  intro x k hx h1 hk
  obtain ⟨k, rfl⟩ : ∃ j, k = j + 1 := ⟨k - 1, by omega⟩
  have hb := mbef_bd y x (by omega) (by omega)
  have hsu := mbef_succ y x (by omega) (by omega)
  have hml := mlen_bd y x
  obtain ⟨k', hk', e⟩ := ih (x + 1) k (by omega) (by omega) (by omega)
  refine ⟨k', hk', ?_⟩
  simp only [pantryref12_Read.l1]
  rw [if_pos (by omega), days_ref]
  simp only [Option.bind_some]
  rw [daysI_in hy0 hy1 (by omega) (by omega), w64 (x := x + 1) (by omega) (by omega), w64 (by omega) (by omega), ← e, hsu]
  rw [show c + mbef y x + mlen y x = c + (mbef y x + mlen y x) from by omega]
theorem r12_l0 (s : ByteArray) (h29 : s.size = 29) (y m c : Int) (hy0 : 1970 ≤ y) (hy1 : y ≤ 9999) (hm0 : 1 ≤ m) (hm1 : m ≤ 12) (hc0 : 0 ≤ c) (hc1 : c ≤ 100) : ∀ (n : Nat) (x : Int) (k : Nat), x + n = y → 1970 ≤ x → KD + n + 20 ≤ k →
  ∃ k', KD ≤ k' ∧ pantryref12_Read.l0 k s m y (c + ybef x) x = rEnd s ((c + ybef y + mbef y m) * 86400 + fN s 17 2 * 3600 + fN s 20 2 * 60 + fN s 23 2) k' := by
 have hyt := ybef_mono (a := y) (b := 9999) hy1
 have h70 : ybef 1970 = 0 := by decide
 have h99 : ybef 9999 = 2932532 := by decide
 intro n
 induction n with
 | zero =>
  intro x k hx h1 hk
  obtain ⟨k, rfl⟩ : ∃ j, k = j + 1 := ⟨k - 1, by omega⟩
  obtain rfl : x = y := by omega
  have hxb := ybef_mono (a := 1970) (b := x) h1
  obtain ⟨k', hk', e⟩ := r12_l1 s h29 x m (c + ybef x) hy0 hy1 hm0 hm1 (by omega) (by omega) (m - 1).toNat 1 k (by omega) (by omega) (by omega)
  refine ⟨k', hk', ?_⟩
  simp only [pantryref12_Read.l0]
  rw [if_neg (by omega), ← e, mbef_1, Int.add_zero]
 | succ n ih =>
  intro x k hx h1 hk
  obtain ⟨k, rfl⟩ : ∃ j, k = j + 1 := ⟨k - 1, by omega⟩
  have hxb := ybef_mono (a := 1970) (b := x) h1
  have hxy := ybef_mono (a := x) (b := y) (by omega)
  have hsu := ybef_succ x
  obtain ⟨k', hk', e⟩ := ih (x + 1) k (by omega) (by omega) (by omega)
  refine ⟨k', hk', ?_⟩
  simp only [pantryref12_Read.l0]
  rw [if_pos (by omega), leap_ref]
  simp only [Option.bind_some]
  rw [w64 (x := x + 1) (by omega) (by omega), w64 (x := c + ybef x + 365) (by omega) (by omega), w64 (by omega) (by omega), ← e, hsu]
  unfold lp
  by_cases hl : leapP x
  ·
   rw [if_pos (decide_eq_true hl), if_pos hl]
   rw [show c + ybef x + 365 + 1 = c + (ybef x + 365 + 1) from by omega]
  ·
   rw [if_neg (by rw [decide_eq_false hl]; simp), if_neg hl]
   rw [show c + ybef x + 365 = c + (ybef x + 365 + 0) from by omega]
def r12V (s : ByteArray) : Int × Bool := if (readV s).2 = 0 then ((readV s).1, true) else (0, false)
theorem r12_eval (s : ByteArray) (k : Nat) (hk : 30000 ≤ k) : pantryref12_Read.f k s = some (r12V s) := by
 have jt : ∀ a b c, pantryref12_Read.j0 k s a b c true = some (0, false) := fun a b c => by
  obtain ⟨k, rfl⟩ : ∃ j, k = j + 1 := ⟨k - 1, by omega⟩
  simp [pantryref12_Read.j0]
 unfold pantryref12_Read.f
 by_cases h29 : s.size = 29
 ·
  have b4 := fN4_bd s h29 12 (by omega)
  have b2 := fN2_bd s h29 5 (by omega)
  have bm := monGo_bd (s.extract 8 11) 12 1 0 (by omega) (by omega) (by omega)
  have n1 : pantryref12_number.f k s 12 4 = some (fN s 12 4) := number_eval s (by omega) 12 4 (by omega) k (by omega)
  have n2 : pantryref12_number.f k s 5 2 = some (fN s 5 2) := number_eval s (by omega) 5 2 (by omega) k (by omega)
  rw [if_pos (by omega)]
  simp only [Option.bind_some]
  rw [n1]
  simp only [Option.bind_some]
  rw [n2]
  simp only [Option.bind_some]
  have hany := read_any s (KD + 20) (Nat.le_refl _)
  have good : monNo s ≠ 0 → ¬ fN s 12 4 < 1970 → ¬ fN s 5 2 < 1 → pantryref12_Read.j0 k s (monNo s) (fN s 12 4) (fN s 5 2) false = some (r12V s) := by
   intro g1 g2 g3
   obtain ⟨k, rfl⟩ : ∃ j, k = j + 1 := ⟨k - 1, by omega⟩
   unfold monNo at g1
   obtain ⟨k', hk', e⟩ := r12_l0 s h29 (fN s 12 4) (monNo s) (fN s 5 2 - 1) (by omega) (by omega) (by unfold monNo; omega) (by unfold monNo; omega) (by omega) (by omega) (fN s 12 4 - 1970).toNat 1970 k (by omega) (by omega) (by unfold KD; omega)
   have e2 : pantryref12_Read.j0 (k + 1) s (monNo s) (fN s 12 4) (fN s 5 2) false = pantryref12_Read.l0 k s (monNo s) (fN s 12 4) (wrap64 (fN s 5 2 - 1)) 1970 := by
    simp only [pantryref12_Read.j0]
    rw [if_neg (by simp)]
   have h70 : ybef 1970 = 0 := by decide
   rw [e2, w64 (by omega) (by omega)]
   rw [h70, Int.add_zero] at e
   rw [e]
   rcases hany with ⟨er, hn⟩ | ⟨t, y, m, d, r, h, hs, er⟩
   ·
    have hv : r12V s = (0, false) := by unfold r12V readV; rw [er]; rfl
    rw [hv]
    unfold rEnd
    generalize (fN s 5 2 - 1 + ybef (fN s 12 4) + mbef (fN s 12 4) (monNo s)) * 86400 + fN s 17 2 * 3600 + fN s 20 2 * 60 + fN s 23 2 = T
    by_cases t0 : T < 0
    ·
     rw [if_pos t0]
    ·
     rw [if_neg t0]
     by_cases t1 : T > 253402300799
     ·
      rw [if_pos t1]
     ·
      rw [if_neg t1]
      obtain ⟨y, m, d, h⟩ := IsDate.exists T (by omega) (by omega)
      rw [refShow_of h k' hk']
      simp only [Option.bind_some]
      rw [if_neg]
      rw [toList_eq, toList_eq, refShowB_eq h]
      exact fun e => hn _ _ _ _ _ h e.symm
   ·
    obtain ⟨_, p1, p2, p3, p4, p5, p6⟩ := date_parts h s hs
    have hr := h.range
    have ht := h.eq
    have hr0 := h.r0
    have eT : (fN s 5 2 - 1 + ybef (fN s 12 4) + mbef (fN s 12 4) (monNo s)) * 86400 + fN s 17 2 * 3600 + fN s 20 2 * 60 + fN s 23 2 = t := by
     rw [p1, p2, p3, p4, p5, p6, ht]
     omega
    have hv : r12V s = (t, true) := by unfold r12V readV; rw [er]; rfl
    rw [hv, eT]
    unfold rEnd
    rw [if_neg (by omega), if_neg (by omega), refShow_of h k' hk']
    simp only [Option.bind_some]
    rw [if_pos (by rw [toList_eq, toList_eq, refShowB_eq h, hs])]
  have bad : monNo s = 0 ∨ fN s 12 4 < 1970 ∨ fN s 5 2 < 1 → some ((0 : Int), false) = some (r12V s) := by
   intro hb
   rcases hany with ⟨er, hn⟩ | ⟨t, y, m, d, r, h, hs, er⟩
   ·
    have hv : r12V s = (0, false) := by unfold r12V readV; rw [er]; rfl
    rw [hv]
   ·
    obtain ⟨_, p1, p2, p3, _, _, _⟩ := date_parts h s hs
    have := h.m0; have := h.y0; have := h.d0
    rw [p1, p2, p3] at hb
    omega
  by_cases g1 : monNo s = 0
  ·
   rw [if_pos g1, jt]; exact bad (.inl g1)
  ·
   rw [if_neg g1]
   by_cases g2 : fN s 12 4 < 1970
   ·
    rw [if_pos g2, jt]; exact bad (.inr (.inl g2))
   ·
    rw [if_neg g2]
    by_cases g3 : fN s 5 2 < 1
    ·
     rw [decide_eq_true g3, jt]; exact bad (.inr (.inr g3))
    ·
     rw [decide_eq_false g3]; exact good g1 g2 g3
 ·
  rw [if_neg (by omega)]
  have hv : r12V s = (0, false) := by unfold r12V readV; rw [read_small s h29]; rfl
  rw [hv]

/-! ## A response's life -/
theorem readV_bd (s : ByteArray) (h : (readV s).2 = 0) : 0 ≤ (readV s).1 ∧ (readV s).1 ≤ 253402300799 := by
 unfold readV at *
 rcases read_any s (KD + 20) (Nat.le_refl _) with ⟨e, _⟩ | ⟨t, y, m, d, r, hd, _, e⟩
 ·
  rw [e] at h
  exact absurd h (by decide)
 ·
  rw [e]
  exact hd.range
def dayV (n : ByteArray) (l : List S46) (o : Int) : Int := if (readV (getB n l)).2 = 0 then (readV (getB n l)).1 else o
theorem fdated_eval (n : ByteArray) (l : List S46) (o : Int) (hn : n.size ≤ 1000) (h : SmallF l) (k : Nat) (hk : KD + 20 ≤ k) : fresh_dated.f k l n o = some (dayV n l o) := by
 unfold KD at hk
 have hl := h.1
 have g : field_List_Get.f k l n = some (getB n l, decide (0 < (allV n l).length)) := get_eval n l (by omega) h.2 (by omega) k (by omega)
 unfold fresh_dated.f dayV
 rw [g]
 simp only [Option.bind_some]
 rw [read_eval _ k (by unfold KD; omega)]
 simp only [Option.bind_some]
 split <;> rfl
theorem times_one (a : Int) (h0 : 0 ≤ a) (h1 : a ≤ 253402300799) (k : Nat) (hk : 2 ≤ k) : fresh_times.f k [a] = some true := by
 obtain ⟨k, rfl⟩ : ∃ j, k = j + 2 := ⟨k - 2, by omega⟩
 have e : rd [a] 0 = a := rfl
 unfold fresh_times.f
 rw [fresh_times.l0, if_pos (by simp), if_pos (by omega), if_pos (by simp), e, if_neg (by omega), if_neg (by omega), w64 (by omega) (by omega), fresh_times.l0, if_neg (by simp)]
def expU : ByteArray := ⟨#[69, 120, 112, 105, 114, 101, 115]⟩
def dateU : ByteArray := ⟨#[68, 97, 116, 101]⟩
def lastU : ByteArray := ⟨#[76, 97, 115, 116, 45, 77, 111, 100, 105, 102, 105, 101, 100]⟩
/-- What a response says of its life. -/
def saidL (l : List S46) (a : Int) : Int :=
 if (ctTup (ofV l)).2.2.2.2.2.2.2.1 ≥ 0 then (ctTup (ofV l)).2.2.2.2.2.2.2.1 else if (ctTup (ofV l)).2.2.2.2.2.2.1 ≥ 0 then (ctTup (ofV l)).2.2.2.2.2.2.1
 else if 0 < (allV expU l).length then mx (wrap64 (dayV expU l 0 - dayV dateU l a)) 0 else wrap64 (mx (wrap64 (dayV dateU l a - dayV lastU l (dayV dateU l a))) 0 / 10)
theorem said_eval (l : List S46) (a : Int) (h : SmallF l) (k : Nat) (hk : 3000100 < k) : fresh_said.f k l a = some (saidL l a) := by
 have hl := h.1
 have e : fresh_said.f k l a = ((control_Of.f k l).bind fun c => (fresh_dated.f k l dateU a).bind fun t => (field_List_Get.f k l expU).bind fun b => if c.2.2.2.2.2.2.2.1 ≥ 0 then some c.2.2.2.2.2.2.2.1 else if c.2.2.2.2.2.2.1 ≥ 0 then some c.2.2.2.2.2.2.1 else if b.2 = true then ((fresh_dated.f k l expU 0).bind fun x => some (mx (wrap64 (x - t)) 0)) else ((fresh_dated.f k l lastU t).bind fun x => some (wrap64 (mx (wrap64 (t - x)) 0 / 10)))) := rfl
 have g : field_List_Get.f k l expU = some (getB expU l, decide (0 < (allV expU l).length)) := get_eval expU l (by decide) h.2 (by omega) k (by omega)
 have hK : KD + 20 ≤ k := by unfold KD; omega
 rw [e, of_eval l h k hk, fdated_eval dateU l a (by decide) h k hK, g]
 simp only [Option.bind_some]
 rw [fdated_eval expU l 0 (by decide) h k hK, fdated_eval lastU l (dayV dateU l a) (by decide) h k hK]
 simp only [Option.bind_some]
 unfold saidL
 by_cases c1 : (ctTup (ofV l)).2.2.2.2.2.2.2.1 ≥ 0
 ·
  rw [if_pos c1, if_pos c1]
 ·
  rw [if_neg c1, if_neg c1]
  by_cases c2 : (ctTup (ofV l)).2.2.2.2.2.2.1 ≥ 0
  ·
   rw [if_pos c2, if_pos c2]
  ·
   rw [if_neg c2, if_neg c2]
   by_cases c3 : 0 < (allV expU l).length
   ·
    rw [if_pos (decide_eq_true c3), if_pos c3]
   ·
    rw [if_neg (by rw [decide_eq_false c3]; simp), if_neg c3]
theorem life_eval (l : List S46) (a : Int) (h : SmallF l) (a0 : 0 ≤ a) (a1 : a ≤ 253402300799) (s0 : ByteArray) (s1 s2 s3 : Int) (s4 s5 : Bool) (s6 : List ByteArray) (k : Nat) (hk : 3000100 < k) :
  fresh_Life.f k s0 s1 s2 s3 s4 s5 s6 l a = some (mn (mx (saidL l a) s2) s3) := by
 unfold fresh_Life.f
 rw [times_one a a0 a1 k (by omega)]
 simp only [Option.bind_some]
 rw [if_pos trivial, said_eval l a h k hk]
 rfl

/-! ## A site that can be gone through with -/
theorem rdS (s : S24) : rd_T24 [s] 0 = s := rfl
theorem sites_l1 (s : S24) (hs : s.f6.length ≤ 10) : ∀ (d i k : Nat), i + d = s.f6.length → d + 5 < k →
  ∃ b, pantrymade_SmallSites.l1 k [s] 1 0 s.f6 (s.f6.length : Int) (i : Int) [s] = some b := by
 intro d
 induction d with
 | zero =>
  intro i k hi hk
  obtain ⟨k, rfl⟩ : ∃ j, k = j + 2 := ⟨k - 2, by omega⟩
  simp only [pantrymade_SmallSites.l1]
  rw [if_neg (by omega), w64n (by omega) (by omega)]
  simp only [pantrymade_SmallSites.l0]
  rw [if_neg (by omega)]
  exact ⟨_, rfl⟩
 | succ d ih =>
  intro i k hi hk
  obtain ⟨k, rfl⟩ : ∃ j, k = j + 1 := ⟨k - 1, by omega⟩
  simp only [pantrymade_SmallSites.l1]
  rw [if_pos (by omega), if_pos (by omega), if_pos (by omega), w64n (by omega) (by omega)]
  split
  ·
   exact ⟨_, rfl⟩
  ·
   have := ih (i + 1) k (by omega) (by omega)
   rwa [show ((i + 1 : Nat) : Int) = (i : Int) + 1 by omega] at this
theorem sites_eval (s : S24) (k : Nat) (hk : 40 ≤ k) : ∃ b, pantrymade_SmallSites.f k [s] = some b := by
 obtain ⟨k, rfl⟩ : ∃ j, k = j + 2 := ⟨k - 2, by omega⟩
 have e : pantrymade_SmallSites.f (k + 2) [s] = pantrymade_SmallSites.l0 (k + 2) [s] 1 0 [s] := rfl
 rw [e]
 simp only [pantrymade_SmallSites.l0]
 rw [if_pos (by omega), if_pos (by omega), if_pos (by simp), rdS]
 split
 ·
  simp only [pantrymade_SmallSites.j1]
  rw [if_pos trivial]
  exact ⟨_, rfl⟩
 ·
  simp only [pantrymade_SmallSites.j1]
  by_cases h : (s.f6.length : Int) > 10
  ·
   rw [if_pos (decide_eq_true h)]
   exact ⟨_, rfl⟩
  ·
   rw [if_neg (by rw [decide_eq_false h]; simp)]
   exact sites_l1 s (by omega) s.f6.length 0 k (by omega) (by omega)
theorem fit_eval (a0 : ByteArray) (a1 a2 a3 : Int) (a4 a5 : Bool) (l6 : List ByteArray) (k : Nat) (hk : 40 ≤ k) :
  ∃ b, pantrylaw12_fit.f k a0 a1 a2 a3 a4 a5 l6 = some b ∧ (b = true → 0 ≤ a2 ∧ a2 ≤ 2147483648 ∧ 0 ≤ a3 ∧ a3 ≤ 2147483648) := by
 obtain ⟨b, hb⟩ := sites_eval ⟨a0, a1, a2, a3, a4, a5, l6⟩ k hk
 unfold pantrylaw12_fit.f
 rw [hb]
 simp only [Option.bind_some]
 cases b with
 | false => rw [if_neg (by simp)]; exact ⟨_, rfl, fun h => by cases h⟩
 | true =>
  rw [if_pos rfl]
  by_cases c1 : a2 ≥ 0
  ·
   rw [if_pos c1]
   by_cases c2 : a3 ≥ 0
   ·
    rw [if_pos c2]
    by_cases c3 : a2 ≤ 2147483648
    ·
     rw [if_pos c3]
     exact ⟨_, rfl, fun h => ⟨c1, c3, c2, of_decide_eq_true h⟩⟩
    ·
     rw [if_neg c3]; exact ⟨_, rfl, fun h => by cases h⟩
   ·
    rw [if_neg c2]; exact ⟨_, rfl, fun h => by cases h⟩
  ·
   rw [if_neg c1]; exact ⟨_, rfl, fun h => by cases h⟩

/-! ## A response's age, and what may be done -/
theorem numP_top : ∀ (l : List UInt8) (n : Int), n ≤ 2147483648 → ∀ v, numP n l = some v → v ≤ 2147483648 := by
 intro l
 induction l with
 | nil => intro n h v hv; rw [numP] at hv; obtain rfl := Option.some.inj hv; exact h
 | cons c l ih =>
  intro n h v hv
  rw [numP] at hv
  split at hv
  ·
   cases hv
  ·
   refine ih _ ?_ v hv
   unfold mn
   split <;> omega
theorem numV_bd (s : ByteArray) : 0 ≤ (numV s).1 ∧ (numV s).1 ≤ 2147483648 := by
 unfold numV
 cases h : numP 0 s.data.toList with
 | none => exact ⟨Int.le_refl _, show (0 : Int) ≤ 2147483648 by omega⟩
 | some v => exact ⟨numP_range _ 0 (by omega) v h, numP_top _ 0 (by omega) v h⟩
theorem times_three (a b c : Int) (ha : 0 ≤ a ∧ a ≤ 253402300799) (hb : 0 ≤ b ∧ b ≤ 253402300799) (hc : 0 ≤ c ∧ c ≤ 253402300799) (k : Nat) (hk : 4 ≤ k) : fresh_times.f k [a, b, c] = some true := by
 obtain ⟨k, rfl⟩ : ∃ j, k = j + 4 := ⟨k - 4, by omega⟩
 have e0 : rd [a, b, c] 0 = a := rfl
 have e1 : rd [a, b, c] 1 = b := rfl
 have e2 : rd [a, b, c] 2 = c := rfl
 have w1 : wrap64 (0 + 1) = 1 := w64 (by omega) (by omega)
 have w2 : wrap64 (1 + 1) = 2 := w64 (by omega) (by omega)
 have w3 : wrap64 (2 + 1) = 3 := w64 (by omega) (by omega)
 unfold fresh_times.f
 rw [fresh_times.l0, if_pos (by simp), if_pos (by omega), if_pos (by simp), e0, if_neg (by omega), if_neg (by omega), w1, fresh_times.l0, if_pos (by simp), if_pos (by omega), if_pos (by simp), e1, if_neg (by omega), if_neg (by omega), w2,
  fresh_times.l0, if_pos (by simp), if_pos (by omega), if_pos (by simp), e2, if_neg (by omega), if_neg (by omega), w3, fresh_times.l0, if_neg (by simp)]
def ageU : ByteArray := ⟨#[65, 103, 101]⟩
def ageV (l : List S46) (asked a now : Int) : Int := mx (a - dayV dateU l a) ((numV (getB ageU l)).1 + mx (a - asked) 0) + mx (now - a) 0
theorem dayV_bd (n : ByteArray) (l : List S46) (o : Int) (h0 : 0 ≤ o) (h1 : o ≤ 253402300799) : 0 ≤ dayV n l o ∧ dayV n l o ≤ 253402300799 := by
 unfold dayV
 split
 ·
  rename_i h
  exact readV_bd _ h
 ·
  exact ⟨h0, h1⟩
theorem age_eval (l : List S46) (asked a now : Int) (h : SmallF l) (hs : 0 ≤ asked ∧ asked ≤ 253402300799) (ha : 0 ≤ a ∧ a ≤ 253402300799) (hn : 0 ≤ now ∧ now ≤ 253402300799) (k : Nat) (hk : 3000100 < k) :
  fresh_Age.f k l asked a now = some (ageV l asked a now) := by
 have hl := h.1
 have g : field_List_Get.f k l ageU = some (getB ageU l, decide (0 < (allV ageU l).length)) := get_eval ageU l (by decide) h.2 (by omega) k (by omega)
 have hz := getB_size ageU l h
 have hb := numV_bd (getB ageU l)
 have hd := dayV_bd dateU l a ha.1 ha.2
 have e : fresh_Age.f k l asked a now = ((fresh_times.f k [asked, a, now]).bind fun t => if t = true then ((field_List_Get.f k l ageU).bind fun b => (sign_Number.f k b.1).bind fun c => (fresh_dated.f k l dateU a).bind fun d => some (wrap64 ((mx (wrap64 (a - d)) (wrap64 (c.1 + (mx (wrap64 (a - asked)) 0)))) + (mx (wrap64 (now - a)) 0)))) else some 0) := rfl
 rw [e, times_three asked a now hs ha hn k (by omega)]
 simp only [Option.bind_some]
 rw [if_pos trivial, g]
 simp only [Option.bind_some]
 rw [num_eval _ (by omega) k (by omega)]
 simp only [Option.bind_some]
 rw [fdated_eval dateU l a (by decide) h k (by unfold KD; omega)]
 simp only [Option.bind_some]
 unfold ageV
 generalize dayV dateU l a = d at *
 generalize (numV (getB ageU l)).1 = n at *
 rw [w64 (x := a - d) (by omega) (by omega), w64 (x := a - asked) (by omega) (by omega), w64 (x := now - a) (by omega) (by omega)]
 have m1 : 0 ≤ mx (a - asked) 0 ∧ mx (a - asked) 0 ≤ 253402300799 := by unfold mx; split <;> omega
 have m2 : 0 ≤ mx (now - a) 0 ∧ mx (now - a) 0 ≤ 253402300799 := by unfold mx; split <;> omega
 rw [w64 (x := n + mx (a - asked) 0) (by omega) (by omega)]
 have m3 : 0 ≤ mx (a - d) (n + mx (a - asked) 0) ∧ mx (a - d) (n + mx (a - asked) 0) ≤ 600000000000 := by
  generalize mx (a - asked) 0 = z at *
  unfold mx; split <;> omega
 rw [w64 (by omega) (by omega)]
def lifeV (l : List S46) (a s2 s3 : Int) : Int := mn (mx (saidL l a) s2) s3
/-! ## The document's days, lives and ages -/
def dR (n : ByteArray) (l : List S46) : Int × Bool := r12V (getB n l)
theorem dayV_dR (n : ByteArray) (l : List S46) (o : Int) : dayV n l o = if (dR n l).2 = true then (dR n l).1 else o := by
 unfold dayV dR r12V
 by_cases h : (readV (getB n l)).2 = 0
 ·
  rw [if_pos h, if_pos h, if_pos rfl]
 ·
  rw [if_neg h, if_neg h, if_neg (by simp)]
theorem dR_bd (n : ByteArray) (l : List S46) (h : (dR n l).2 = true) : 0 ≤ (dR n l).1 ∧ (dR n l).1 ≤ 253402300799 := by
 unfold dR r12V at *
 by_cases h2 : (readV (getB n l)).2 = 0
 ·
  rw [if_pos h2]; exact readV_bd _ h2
 ·
  rw [if_neg h2] at h; cases h
/-- What the document says that a response says of its life. -/
def toldR (l : List S46) (a : Int) : Int :=
 if (ofV l).s7 ≥ 0 then (ofV l).s7 else if (ofV l).s6 ≥ 0 then (ofV l).s6
 else if 0 < (allV expU l).length then (if (dR expU l).2 = true then (if (dR expU l).1 < dayV dateU l a then 0 else (dR expU l).1 - dayV dateU l a) else 0)
 else if (dR lastU l).2 = true then (if (dR lastU l).1 > dayV dateU l a then 0 else (dayV dateU l a - (dR lastU l).1) / 10) else 0
theorem said_told (l : List S46) (a : Int) (h0 : 0 ≤ a) (h1 : a ≤ 253402300799) : saidL l a = toldR l a := by
 have hd := dayV_bd dateU l a h0 h1
 have he := dayV_bd expU l 0 (by omega) (by omega)
 have hl := dayV_bd lastU l (dayV dateU l a) hd.1 hd.2
 unfold saidL toldR
 have e7 : (ctTup (ofV l)).2.2.2.2.2.2.2.1 = (ofV l).s7 := rfl
 have e6 : (ctTup (ofV l)).2.2.2.2.2.2.1 = (ofV l).s6 := rfl
 rw [e7, e6]
 by_cases c1 : (ofV l).s7 ≥ 0
 ·
  rw [if_pos c1, if_pos c1]
 rw [if_neg c1, if_neg c1]
 by_cases c2 : (ofV l).s6 ≥ 0
 ·
  rw [if_pos c2, if_pos c2]
 rw [if_neg c2, if_neg c2]
 rw [w64 (x := dayV expU l 0 - dayV dateU l a) (by omega) (by omega), w64 (x := dayV dateU l a - dayV lastU l (dayV dateU l a)) (by omega) (by omega)]
 by_cases c3 : 0 < (allV expU l).length
 ·
  rw [if_pos c3, if_pos c3, dayV_dR expU]
  unfold mx
  by_cases c4 : (dR expU l).2 = true
  ·
   rw [if_pos c4, if_pos c4]
   (repeat' split) <;> omega
  ·
   rw [if_neg c4, if_neg c4]
   split <;> omega
 ·
  rw [if_neg c3, if_neg c3, dayV_dR lastU]
  by_cases c4 : (dR lastU l).2 = true
  ·
   rw [if_pos c4, if_pos c4]
   have hb := dR_bd lastU l c4
   have m0 : 0 ≤ mx (dayV dateU l a - (dR lastU l).1) 0 ∧ mx (dayV dateU l a - (dR lastU l).1) 0 ≤ 253402300799 := by unfold mx; split <;> omega
   rw [w64 (by omega) (by omega)]
   unfold mx
   (repeat' split) <;> omega
  ·
   rw [if_neg c4, if_neg c4, show dayV dateU l a - dayV dateU l a = 0 by omega, show mx (0 : Int) 0 / 10 = 0 by unfold mx; split <;> omega]
   exact w64 (by omega) (by omega)

/-! ## What the program and the document say of all times -/
abbrev inR (a : Int) : Prop := 0 ≤ a ∧ a ≤ 253402300799
theorem times_l0 (l : List Int) (hl : l.length ≤ 1000) : ∀ (d i k : Nat), i + d = l.length → d < k → fresh_times.l0 k l (l.length : Int) (i : Int) = some (decide (∀ x ∈ l.drop i, inR x)) := by
 intro d
 induction d with
 | zero =>
  intro i k hi hk
  obtain ⟨k, rfl⟩ : ∃ j, k = j + 1 := ⟨k - 1, by omega⟩
  simp only [fresh_times.l0]
  rw [if_neg (by omega), List.drop_of_length_le (by omega)]
  simp
 | succ d ih =>
  intro i k hi hk
  obtain ⟨k, rfl⟩ : ∃ j, k = j + 1 := ⟨k - 1, by omega⟩
  have hlt : i < l.length := by omega
  have e : rd l (i : Int) = l[i] := by simp [rd, hlt]
  simp only [fresh_times.l0]
  rw [if_pos (by omega), if_pos (by omega), if_pos (by omega), e, List.drop_eq_getElem_cons hlt]
  have := ih (i + 1) k (by omega) (by omega)
  rw [show ((i + 1 : Nat) : Int) = (i : Int) + 1 by omega] at this
  rw [w64 (x := (i : Int) + 1) (by omega) (by omega), this]
  unfold inR
  by_cases c1 : l[i] < 0
  ·
   rw [if_pos c1]
   simp only [List.mem_cons, forall_eq_or_imp]
   rw [decide_eq_false (fun x => by omega)]
  rw [if_neg c1]
  by_cases c2 : l[i] > 253402300799
  ·
   rw [if_pos c2]
   simp only [List.mem_cons, forall_eq_or_imp]
   rw [decide_eq_false (fun x => by omega)]
  rw [if_neg c2]
  simp only [List.mem_cons, forall_eq_or_imp]
  congr 1
  rw [decide_eq_decide]
  exact ⟨fun x => ⟨by omega, x⟩, fun x => x.2⟩
theorem times_eval (l : List Int) (hl : l.length ≤ 1000) (k : Nat) (hk : l.length < k) : fresh_times.f k l = some (decide (∀ x ∈ l, inR x)) := times_l0 l hl l.length 0 k (Nat.zero_add _) hk
theorem times3 (a b c : Int) (k : Nat) (hk : 4 ≤ k) : fresh_times.f k [a, b, c] = some (decide (inR a ∧ inR b ∧ inR c)) := by
 rw [times_eval [a, b, c] (by show 3 ≤ 1000; omega) k (by show 3 < k; omega)]
 congr 1
 rw [decide_eq_decide]
 simp
theorem times1 (a : Int) (k : Nat) (hk : 4 ≤ k) : fresh_times.f k [a] = some (decide (inR a)) := by
 rw [times_eval [a] (by show 1 ≤ 1000; omega) k (by show 1 < k; omega)]
 congr 1
 rw [decide_eq_decide]
 simp
def lifeA (l : List S46) (a s2 s3 : Int) : Int := if inR a then lifeV l a s2 s3 else 0
def ageA (l : List S46) (asked a now : Int) : Int := if inR asked ∧ inR a ∧ inR now then ageV l asked a now else 0
theorem life_all (l : List S46) (a : Int) (h : SmallF l) (s0 : ByteArray) (s1 s2 s3 : Int) (s4 s5 : Bool) (s6 : List ByteArray) (k : Nat) (hk : 3000100 < k) :
  fresh_Life.f k s0 s1 s2 s3 s4 s5 s6 l a = some (lifeA l a s2 s3) := by
 unfold lifeA
 by_cases c : inR a
 ·
  rw [if_pos c]; exact life_eval l a h c.1 c.2 s0 s1 s2 s3 s4 s5 s6 k hk
 ·
  unfold fresh_Life.f
  rw [times1 a k (by omega), if_neg c, decide_eq_false c]
  simp
theorem age_all (l : List S46) (asked a now : Int) (h : SmallF l) (k : Nat) (hk : 3000100 < k) : fresh_Age.f k l asked a now = some (ageA l asked a now) := by
 unfold ageA
 by_cases c : inR asked ∧ inR a ∧ inR now
 ·
  rw [if_pos c]; exact age_eval l asked a now h c.1 c.2.1 c.2.2 k hk
 ·
  unfold fresh_Age.f
  rw [times3 asked a now k (by omega), if_neg c, decide_eq_false c]
  simp
/-! ## The document's -/
def dateL : ByteArray := ⟨#[100, 97, 116, 101]⟩
def expL : ByteArray := ⟨#[101, 120, 112, 105, 114, 101, 115]⟩
def lastL : ByteArray := ⟨#[108, 97, 115, 116, 45, 109, 111, 100, 105, 102, 105, 101, 100]⟩
def ageL : ByteArray := ⟨#[97, 103, 101]⟩
theorem date_low : dateL = lowB dateU := by decide +kernel
theorem exp_low : expL = lowB expU := by decide +kernel
theorem last_low : lastL = lowB lastU := by decide +kernel
theorem age_low : ageL = lowB ageU := by decide +kernel
theorem dR_low (n : ByteArray) (l : List S46) : dR (lowB n) l = dR n l := by unfold dR; rw [getB_low]
theorem rdated_eval (n : ByteArray) (l : List S46) (hn : n.size ≤ 1000) (h : SmallF l) (k : Nat) (hk : 40000 ≤ k) : pantryref12_Dated.f k (l.map conv) n = some (dR n l) := by
 unfold pantryref12_Dated.f
 rw [rget_eval n l hn h k (by omega)]
 simp only [Option.bind_some]
 rw [r12_eval _ k (by omega)]
 rfl
theorem rdate_eval (l : List S46) (h : SmallF l) (k : Nat) (hk : 40000 ≤ k) : pantryref12_Dated.f k (l.map conv) (⟨#[100, 97, 116, 101]⟩ : ByteArray) = some (dR dateU l) := by
 rw [← dR_low dateU l, ← date_low]
 exact rdated_eval dateL l (by decide) h k hk
theorem rexp_eval (l : List S46) (h : SmallF l) (k : Nat) (hk : 40000 ≤ k) : pantryref12_Dated.f k (l.map conv) (⟨#[101, 120, 112, 105, 114, 101, 115]⟩ : ByteArray) = some (dR expU l) := by
 rw [← dR_low expU l, ← exp_low]
 exact rdated_eval expL l (by decide) h k hk
theorem rlast_eval (l : List S46) (h : SmallF l) (k : Nat) (hk : 40000 ≤ k) : pantryref12_Dated.f k (l.map conv) (⟨#[108, 97, 115, 116, 45, 109, 111, 100, 105, 102, 105, 101, 100]⟩ : ByteArray) = some (dR lastU l) := by
 rw [← dR_low lastU l, ← last_low]
 exact rdated_eval lastL l (by decide) h k hk
theorem rgexp_eval (l : List S46) (h : SmallF l) (k : Nat) (hk : 40000 ≤ k) : pantryref03_Get.f k (l.map conv) (⟨#[101, 120, 112, 105, 114, 101, 115]⟩ : ByteArray) = some (getB expU l, ((allV expU l).length : Int)) := by
 rw [← getB_low expU l, ← allV_low expU l, ← exp_low]
 exact rget_eval expL l (by decide) h k (by omega)
theorem rgage_eval (l : List S46) (h : SmallF l) (k : Nat) (hk : 40000 ≤ k) : pantryref03_Get.f k (l.map conv) (⟨#[97, 103, 101]⟩ : ByteArray) = some (getB ageU l, ((allV ageU l).length : Int)) := by
 rw [← getB_low ageU l, ← allV_low ageU l, ← age_low]
 exact rget_eval ageL l (by decide) h k (by omega)
theorem tdiv10 (x : Int) (h : 0 ≤ x) : Int.tdiv x 10 = x / 10 := Int.tdiv_eq_ediv_of_nonneg h
theorem told_j0 (l : List S46) (h : SmallF l) (d : Int) (d0 : 0 ≤ d) (d1 : d ≤ 253402300799) (k : Nat) (hk : 40010 ≤ k) : pantryref12_told.j0 k (l.map conv) d =
  some (if 0 < (allV expU l).length then (if (dR expU l).2 = true then (if (dR expU l).1 < d then 0 else (dR expU l).1 - d) else 0) else if (dR lastU l).2 = true then (if (dR lastU l).1 > d then 0 else (d - (dR lastU l).1) / 10) else 0) := by
 obtain ⟨k, rfl⟩ : ∃ j, k = j + 2 := ⟨k - 2, by omega⟩
 simp only [pantryref12_told.j0]
 rw [rgexp_eval l h (k + 1) (by omega)]
 simp only [Option.bind_some]
 by_cases c3 : 0 < (allV expU l).length
 ·
  rw [if_pos (by omega), if_pos c3, rexp_eval l h (k + 1) (by omega)]
  simp only [Option.bind_some, pantryref12_told.j1]
  by_cases c4 : (dR expU l).2 = true
  ·
   have hb := dR_bd expU l c4
   rw [if_pos c4, if_pos c4]
   by_cases c5 : (dR expU l).1 < d
   ·
    rw [decide_eq_true c5, if_pos rfl, if_pos c5]
   ·
    rw [decide_eq_false c5, if_neg (by simp), if_neg c5, w64 (by omega) (by omega)]
  ·
   rw [if_neg c4, if_neg c4, if_pos trivial]
 ·
  rw [if_neg (by omega), if_neg c3, rlast_eval l h (k + 1) (by omega)]
  simp only [Option.bind_some]
  by_cases c4 : (dR lastU l).2 = true
  ·
   have hb := dR_bd lastU l c4
   rw [if_pos c4, if_pos c4]
   by_cases c5 : (dR lastU l).1 > d
   ·
    rw [if_pos c5, if_pos c5]
   ·
    rw [if_neg c5, if_neg c5, w64 (x := d - (dR lastU l).1) (by omega) (by omega), tdiv10 _ (by omega), w64 (by omega) (by omega)]
  ·
   rw [if_neg c4, if_neg c4]
theorem rtold_eval (l : List S46) (a : Int) (h : SmallF l) (a0 : 0 ≤ a) (a1 : a ≤ 253402300799) (k : Nat) (hk : 4000300 < k) : pantryref12_told.f k (l.map conv) a = some (toldR l a) := by
 have hd := dayV_bd dateU l a a0 a1
 unfold pantryref12_told.f toldR
 rw [rof_eval l h k (by omega)]
 simp only [Option.bind_some]
 have e7 : (ctTup (ofV l)).2.2.2.2.2.2.2.1 = (ofV l).s7 := rfl
 have e6 : (ctTup (ofV l)).2.2.2.2.2.2.1 = (ofV l).s6 := rfl
 rw [e7, e6]
 by_cases c1 : (ofV l).s7 ≥ 0
 ·
  rw [if_pos c1, if_pos c1]
 rw [if_neg c1, if_neg c1]
 by_cases c2 : (ofV l).s6 ≥ 0
 ·
  rw [if_pos c2, if_pos c2]
 rw [if_neg c2, if_neg c2, rdate_eval l h k (by omega)]
 simp only [Option.bind_some]
 have ed := dayV_dR dateU l a
 by_cases c4 : (dR dateU l).2 = true
 ·
  rw [if_pos c4] at ed ⊢
  rw [← ed, told_j0 l h _ hd.1 hd.2 k (by omega)]
 ·
  rw [if_neg c4] at ed ⊢
  rw [ed]
  exact told_j0 l h a a0 a1 k (by omega)
theorem rlife_all (l : List S46) (a : Int) (h : SmallF l) (s0 : ByteArray) (s1 s2 s3 : Int) (s4 s5 : Bool) (s6 : List ByteArray) (k : Nat) (hk : 4000400 < k) :
  pantryref12_Life.f k s0 s1 s2 s3 s4 s5 s6 (l.map conv) a = some (lifeA l a s2 s3) := by
 obtain ⟨k, rfl⟩ : ∃ j, k = j + 1 := ⟨k - 1, by omega⟩
 unfold pantryref12_Life.f lifeA
 simp only [pantryref12_Life.j0]
 by_cases c1 : a < 0
 ·
  rw [if_pos c1, if_pos trivial, if_neg (fun x => by have := x.1; omega)]
 rw [if_neg c1]
 by_cases c2 : a > 253402300799
 ·
  rw [decide_eq_true c2, if_pos rfl, if_neg (fun x => by have := x.2; omega)]
 rw [decide_eq_false c2, if_neg (by simp), if_pos (show inR a from ⟨by omega, by omega⟩), rtold_eval l a h (by omega) (by omega) k (by omega), ← said_told l a (by omega) (by omega)]
 simp only [Option.bind_some]
 unfold lifeV mn mx
 (repeat' split) <;> first | rfl | (congr 1; omega) | omega
theorem rage_all (l : List S46) (asked a now : Int) (h : SmallF l) (k : Nat) (hk : 4000400 < k) : pantryref12_Age.f k (l.map conv) asked a now = some (ageA l asked a now) := by
 obtain ⟨k, rfl⟩ : ∃ j, k = j + 4 := ⟨k - 4, by omega⟩
 have jt : pantryref12_Age.j0 (k + 4) (l.map conv) asked a now true = some 0 := by simp [pantryref12_Age.j0]
 unfold pantryref12_Age.f ageA inR
 by_cases c1 : asked < 0
 ·
  rw [if_pos c1, jt, if_neg (by omega)]
 rw [if_neg c1]
 by_cases c2 : a < 0
 ·
  rw [if_pos c2, jt, if_neg (by omega)]
 rw [if_neg c2]
 by_cases c3 : now < 0
 ·
  rw [if_pos c3, jt, if_neg (by omega)]
 rw [if_neg c3]
 by_cases c4 : asked > 253402300799
 ·
  rw [if_pos c4, jt, if_neg (by omega)]
 rw [if_neg c4]
 by_cases c5 : a > 253402300799
 ·
  rw [if_pos c5, jt, if_neg (by omega)]
 rw [if_neg c5]
 by_cases c6 : now > 253402300799
 ·
  rw [decide_eq_true c6, jt, if_neg (by omega)]
 rw [decide_eq_false c6, if_pos (by omega)]
 have hz := getB_size ageU l h
 have hb := numV_bd (getB ageU l)
 have j2 : ∀ d : Int, 0 ≤ d → d ≤ 253402300799 → pantryref12_Age.j2 (k + 2) (l.map conv) asked a now d = some (mx d ((numV (getB ageU l)).1 + mx (a - asked) 0) + mx (now - a) 0) := fun d d0 d1 => by
  simp only [pantryref12_Age.j2]
  rw [rgage_eval l h (k + 1) (by omega)]
  simp only [Option.bind_some]
  rw [rnum_eval _ (by omega) (k + 1) (by omega)]
  simp only [Option.bind_some, pantryref12_Age.j3]
  generalize (numV (getB ageU l)).1 = n at *
  rw [w64 (x := a - asked) (by omega) (by omega), w64 (x := now - a) (by omega) (by omega), w64 (x := n + (a - asked)) (by omega) (by omega), w64 (x := d + (now - a)) (by omega) (by omega), w64 (x := n + (now - a)) (by omega) (by omega), w64 (x := n + (a - asked) + (now - a)) (by omega) (by omega)]
  unfold mx
  (repeat' split) <;> first | rfl | (congr 1; omega) | omega
 simp only [pantryref12_Age.j0]
 rw [if_neg (by simp), rdate_eval l h (k + 3) (by omega)]
 simp only [Option.bind_some, pantryref12_Age.j1]
 unfold ageV
 rw [dayV_dR dateU]
 by_cases c7 : (dR dateU l).2 = true
 ·
  have hd := dR_bd dateU l c7
  rw [if_pos c7, if_pos c7]
  by_cases c8 : (dR dateU l).1 < a
  ·
   rw [decide_eq_true c8, if_pos rfl, w64 (x := a - (dR dateU l).1) (by omega) (by omega), j2 _ (by omega) (by omega)]
  ·
   rw [decide_eq_false c8, if_neg (by simp), j2 0 (by omega) (by omega)]
   congr 2
   generalize (numV (getB ageU l)).1 = n at *
   unfold mx
   (repeat' split) <;> omega
 ·
  rw [if_neg c7, if_neg c7, if_neg (by simp), j2 0 (by omega) (by omega), show a - a = 0 by omega]
/-! ## FreshAges -/
theorem law_FreshAges (s0 : ByteArray) (s1 s2 s3 : Int) (s4 s5 : Bool) (s6 : List ByteArray) (l : List S46) (asked a now : Int) (hl : l.length ≤ 9223372036854775807) :
  ∃ k, pantrylaw12_FreshAges.f k s0 s1 s2 s3 s4 s5 s6 l asked a now = some true := by
 obtain ⟨K, hK⟩ : ∃ K, l.length + 6000000 ≤ K := ⟨_, Nat.le_refl _⟩
 refine ⟨K + 1, ?_⟩
 have jt : pantrylaw12_FreshAges.j0 (K + 1) l asked a now true s0 s1 s2 s3 s4 s5 s6 = some true := by simp [pantrylaw12_FreshAges.j0]
 unfold pantrylaw12_FreshAges.f
 rw [anchor_ok _ (by omega)]
 simp only [Option.bind_some]
 rw [if_pos trivial]
 obtain ⟨b, hb, hf⟩ := fit_eval s0 s1 s2 s3 s4 s5 s6 (K + 1) (by omega)
 rw [hb]
 simp only [Option.bind_some]
 cases b with
 | false => rw [if_neg (by simp)]; exact jt
 | true =>
 obtain ⟨f1, f2, f3, f4⟩ := hf rfl
 rw [if_pos rfl]
 obtain ⟨b, hb, hs⟩ := small_eval l hl (K + 1) (by omega)
 rw [hb]
 simp only [Option.bind_some]
 cases b with
 | false => exact jt
 | true =>
 have q0 := (hs rfl).F
 have z0 := q0.1
 simp only [pantrylaw12_FreshAges.j0]
 rw [if_neg (by simp), made_eval l (by omega) K (by omega)]
 simp only [Option.bind_some]
 rw [life_all l a q0 s0 s1 s2 s3 s4 s5 s6 K (by omega)]
 simp only [Option.bind_some, pantrymade_Site.f]
 rw [rlife_all l a q0 s0 s1 s2 s3 s4 s5 s6 K (by omega)]
 simp only [Option.bind_some]
 rw [if_pos trivial, age_all l asked a now q0 K (by omega)]
 simp only [Option.bind_some]
 rw [rage_all l asked a now q0 K (by omega)]
 simp only [Option.bind_some]
 rw [if_pos trivial]
 by_cases c1 : a < 0
 ·
  rw [if_pos c1]
 rw [if_neg c1]
 by_cases c2 : a > 253402300799
 ·
  rw [if_pos c2]
 rw [if_neg c2]
 by_cases c3 : s2 > s3
 ·
  rw [if_pos c3]
 rw [if_neg c3]
 have e : lifeA l a s2 s3 = lifeV l a s2 s3 := if_pos ⟨by omega, by omega⟩
 have hv : s2 ≤ lifeV l a s2 s3 ∧ lifeV l a s2 s3 ≤ s3 := by unfold lifeV mn mx; (repeat' split) <;> omega
 rw [e, if_pos hv.1, decide_eq_true hv.2]

end Go.Proofs.YtgpekljckdgggaaGreatDoor.PAll
