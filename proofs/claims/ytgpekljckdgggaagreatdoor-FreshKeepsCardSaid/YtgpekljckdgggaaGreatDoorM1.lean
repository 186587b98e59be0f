import Derived.Test.YtgpekljckdgggaaGreatDoorPAllx0
import Derived.Test.YtgpekljckdgggaaGreatDoorPAllx1
import Derived.Test.YtgpekljckdgggaaGreatDoorPAllx2
import Derived.Test.YtgpekljckdgggaaGreatDoorPAllx3
import Derived.Test.YtgpekljckdgggaaGreatDoorPAllx4
import Derived.Test.YtgpekljckdgggaaGreatDoorPAllx5
import Derived.Test.YtgpekljckdgggaaGreatDoorPAllx6
import Derived.Test.YtgpekljckdgggaaGreatDoorPAllx7
import Derived.Test.YtgpekljckdgggaaGreatDoorPAllx8
import Derived.Test.YtgpekljckdgggaaGreatDoorPAllx9
import Derived.Test.YtgpekljckdgggaaGreatDoorPAllx10
import Derived.Test.YtgpekljckdgggaaGreatDoorPAllx11
import Derived.Test.YtgpekljckdgggaaGreatDoorPAllx12
import Derived.Test.YtgpekljckdgggaaGreatDoorPAllx13
import Derived.Test.YtgpekljckdgggaaGreatDoorPAllx14
import Derived.Test.YtgpekljckdgggaaGreatDoorPAllx15
import Derived.Test.YtgpekljckdgggaaGreatDoorPAllx16
import Derived.Test.YtgpekljckdgggaaGreatDoorPAllx17
import Derived.Test.YtgpekljckdgggaaGreatDoorPAllx18
import Derived.Test.YtgpekljckdgggaaGreatDoorPAllx19
import Derived.Lib.Join
namespace Go.Proofs.YtgpekljckdgggaaGreatDoor.PAll
open Go.RowKit Go.Proofs.YtgpekljckdgggaaGreatDoorW.PrintWords Go.Proofs.YtgpekljckdgggaaGreatDoorW.PrintLast Go.Proofs.YtgpekljckdgggaaGreatDoorW.PrintMore
set_option linter.unusedVariables false
set_option linter.unusedSimpArgs false

theorem lowB_list (s : ByteArray) : (lowB s).data.toList = lowL s.data.toList := by simp [lowB]

theorem bt_at2 (s : ByteArray) (i : Nat) (h : i < s.data.toList.length) : bt s (i : Int) = ((s.data.toList[i]).toNat : Int) := by
 have h' : i < s.size := by simpa using h
 unfold bt
 simp only [Int.toNat_natCast]
 rw [dif_pos h']
 rfl

/-! What Without comes to (where With is not printed) -/
def isOf (ns : List ByteArray) (o : S46) : Bool := ns.any fun n => sameB n o.f0
theorem w64n {x : Int} (h0 : -9223372036854775808 ≤ x) (h1 : x ≤ 9223372036854775807) : wrap64 x = x := by unfold wrap64; omega

/-! ## Fields, as lists -/
theorem anchor60 : pantrylaw12_anchor.f 60 = some true := by decide +kernel
theorem anchor_ok (k : Nat) (hk : 60 ≤ k) : pantrylaw12_anchor.f k = some true := by
 obtain ⟨j, rfl⟩ : ∃ j, k = 60 + j := ⟨k - 60, by omega⟩
 clear hk
 induction j with
 | zero => exact anchor60
 | succ j ih => exact pantrylaw12_anchor.mono _ _ ih
theorem rd39 (l : List S46) (i : Nat) (h : i < l.length) : rd_T46 l (i : Int) = l[i] := by simp [rd_T46, h]
theorem rdB (l : List ByteArray) (i : Nat) (h : i < l.length) : rdOf ByteArray.empty l (i : Int) = l[i] := by simp [rdOf, h]
def SmallF (l : List S46) : Prop := l.length ≤ 70 ∧ ∀ f ∈ l, f.f0.size ≤ 200 ∧ f.f1.size ≤ 1100
def SmallP (l : List S46) : Prop := l.length ≤ 30 ∧ ∀ f ∈ l, f.f0.size ≤ 100 ∧ f.f1.size ≤ 300
theorem SmallP.F {l : List S46} (h : SmallP l) : SmallF l := ⟨by have := h.1; omega, fun f hf => by have := h.2 f hf; omega⟩
theorem small_l0 (l : List S46) (hl : l.length ≤ 9223372036854775807) : ∀ (d i k : Nat), i + d = l.length → d < k →
  ∃ b, pantrylaw12_small.l0 k l l (l.length : Int) (i : Int) = some b ∧ (b = true → l.length ≤ 30 ∧ ∀ f ∈ l.drop i, f.f0.size ≤ 100 ∧ f.f1.size ≤ 300) := by
 intro d
 induction d with
 | zero =>
  intro i k hi hk
  obtain ⟨k, rfl⟩ : ∃ j, k = j + 1 := ⟨k - 1, by omega⟩
  simp only [pantrylaw12_small.l0]
  rw [if_neg (by omega)]
  refine ⟨_, rfl, fun h => ?_⟩
  have := of_decide_eq_true h
  rw [List.drop_of_length_le (by omega)]
  exact ⟨by omega, fun f hf => by cases hf⟩
 | succ d ih =>
  intro i k hi hk
  obtain ⟨k, rfl⟩ : ∃ j, k = j + 1 := ⟨k - 1, by omega⟩
  have hlt : i < l.length := by omega
  simp only [pantrylaw12_small.l0]
  rw [if_pos (by omega), if_pos (by omega), if_pos (by omega), rd39 l i hlt]
  by_cases h1 : ((l[i].f0).size : Int) > 100
  ·
   rw [if_pos h1]; exact ⟨false, rfl, fun h => by cases h⟩
  ·
   rw [if_neg h1]
   by_cases h2 : ((l[i].f1).size : Int) > 300
   ·
    rw [if_pos h2]; exact ⟨false, rfl, fun h => by cases h⟩
   ·
    rw [if_neg h2, w64n (by omega) (by omega)]
    obtain ⟨b, hb, hs⟩ := ih (i + 1) k (by omega) (by omega)
    refine ⟨b, hb, fun h => ?_⟩
    obtain ⟨h3, h4⟩ := hs h
    refine ⟨h3, fun f hf => ?_⟩
    rw [List.drop_eq_getElem_cons hlt] at hf
    rcases List.mem_cons.1 hf with rfl | hf
    ·
     exact ⟨by omega, by omega⟩
    ·
     exact h4 f hf
theorem small_eval (l : List S46) (hl : l.length ≤ 9223372036854775807) (k : Nat) (hk : l.length < k) : ∃ b, pantrylaw12_small.f k l = some b ∧ (b = true → SmallP l) := by
 obtain ⟨b, hb, hs⟩ := small_l0 l hl l.length 0 k (by omega) hk
 exact ⟨b, hb, fun h => by simpa [SmallP] using hs h⟩

theorem rd36 (l : List S70) (i : Nat) (h : i < l.length) : rd_T70 l (i : Int) = l[i] := by simp [rd_T70, h]
def conv (f : S46) : S70 := ⟨f.f0, f.f1⟩
theorem made_l0 (l : List S46) (hl : l.length < 4398046511104) : ∀ (d i : Nat) (acc : List S70) (k : Nat), i + d = l.length → acc.length ≤ i → d < k →
  pantrymade_Fields.l0 k acc l (l.length : Int) (i : Int) = some (acc ++ (l.drop i).map conv) := by
 intro d
 induction d with
 | zero =>
  intro i acc k hi ha hk
  obtain ⟨k, rfl⟩ : ∃ j, k = j + 1 := ⟨k - 1, by omega⟩
  simp only [pantrymade_Fields.l0]
  rw [if_neg (by omega), List.drop_of_length_le (by omega)]
  simp
 | succ d ih =>
  intro i acc k hi ha hk
  obtain ⟨k, rfl⟩ : ∃ j, k = j + 1 := ⟨k - 1, by omega⟩
  have hlt : i < l.length := by omega
  simp only [pantrymade_Fields.l0]
  rw [if_pos (by omega), if_pos (by omega), if_pos (by omega), if_pos (by omega), rd39 l i hlt, w64n (by omega) (by omega)]
  have := ih (i + 1) (acc ++ [conv l[i]]) k (by omega) (by simp; omega) (by omega)
  rw [show ((i + 1 : Nat) : Int) = (i : Int) + 1 by omega] at this
  rw [List.drop_eq_getElem_cons hlt, List.map_cons, ← List.singleton_append (x := conv l[i]), ← List.append_assoc]
  exact this
theorem made_eval (l : List S46) (hl : l.length < 4398046511104) (k : Nat) (hk : l.length < k) : pantrymade_Fields.f k l = some (l.map conv) := by
 unfold pantrymade_Fields.f
 have := made_l0 l hl l.length 0 [] k (by omega) (by simp) hk
 simpa using this

/-! The reference's small letters -/
def lowI (x : Int) : Int := if x ≥ 65 ∧ x ≤ 90 then (x + 32) % 256 else x
theorem lowI_u8 (c : UInt8) : UInt8.ofNat (lowI (c.toNat : Int)).toNat = lowU c := by
 have := c.toNat_lt
 unfold lowI lowU
 by_cases h : 65 ≤ c.toNat ∧ c.toNat ≤ 90
 ·
  rw [if_pos (by omega), if_pos h]
  congr 1
  omega
 ·
  rw [if_neg (by omega), if_neg h]
  simp
theorem rlow_l0 (s : ByteArray) (hs : s.size ≤ 140737488351232) : ∀ (d i : Nat) (acc : List Int) (k : Nat), i + d = s.size → acc.length ≤ i → d < k →
  pantryref01_Lower.l0 k s acc (i : Int) = some (strOfNums (acc ++ (s.data.toList.drop i).map fun c => lowI (c.toNat : Int))) := by
 intro d
 induction d with
 | zero =>
  intro i acc k hi ha hk
  obtain ⟨k, rfl⟩ : ∃ j, k = j + 1 := ⟨k - 1, by omega⟩
  have hz : s.data.toList.length = s.size := by simp
  simp only [pantryref01_Lower.l0]
  rw [if_neg (by omega), List.drop_of_length_le (by omega)]
  simp
 | succ d ih =>
  intro i acc k hi ha hk
  obtain ⟨k, rfl⟩ : ∃ j, k = j + 1 := ⟨k - 1, by omega⟩
  have hz : s.data.toList.length = s.size := by simp
  have hlt : i < s.data.toList.length := by omega
  simp only [pantryref01_Lower.l0]
  rw [if_pos (by omega), if_pos (by omega), bt_at2 s i hlt, w64n (by omega) (by omega)]
  have hc := (s.data.toList[i]).toNat_lt
  rw [List.drop_eq_getElem_cons hlt, List.map_cons]
  have step : ∀ x : Int, lowI ((s.data.toList[i]).toNat : Int) = x → pantryref01_Lower.l0 k s (acc ++ [x]) ((i : Int) + 1) = some (strOfNums (acc ++ lowI ((s.data.toList[i]).toNat : Int) :: (s.data.toList.drop (i + 1)).map fun c => lowI (c.toNat : Int))) := by
   rintro x rfl
   have := ih (i + 1) (acc ++ [lowI ((s.data.toList[i]).toNat : Int)]) k (by omega) (by simp; omega) (by omega)
   rw [show ((i + 1 : Nat) : Int) = (i : Int) + 1 by omega] at this
   rw [this, List.append_assoc]
   rfl
  by_cases h1 : ((s.data.toList[i]).toNat : Int) ≥ 65
  ·
   rw [if_pos h1]
   by_cases h2 : ((s.data.toList[i]).toNat : Int) ≤ 90
   ·
    rw [if_pos h2, if_pos (by omega)]
    exact step _ (by unfold lowI; rw [if_pos ⟨h1, h2⟩])
   ·
    rw [if_neg h2, if_pos (by omega)]
    exact step _ (by unfold lowI; rw [if_neg (by omega)])
  ·
   rw [if_neg h1, if_pos (by omega)]
   exact step _ (by unfold lowI; rw [if_neg (by omega)])
theorem rlow_eval (s : ByteArray) (hs : s.size ≤ 140737488351232) (k : Nat) (hk : s.size < k) : pantryref01_Lower.f k s = some (lowB s) := by
 unfold pantryref01_Lower.f
 have := rlow_l0 s hs s.size 0 [] k (by omega) (by simp) hk
 rw [show ((0 : Nat) : Int) = 0 from rfl] at this
 rw [this]
 congr 1
 unfold strOfNums lowB lowL
 simp only [List.nil_append, List.drop_zero, List.map_map]
 congr 2
 apply List.map_congr_left
 intro c _
 exact lowI_u8 c

theorem is_eval (f v n : ByteArray) (hf : f.size ≤ 140737488351232) (hn : n.size ≤ 140737488351232) (k : Nat) (hk : f.size < k) (hk2 : n.size < k) : pantryref03_Field_Is.f k f v n = some (sameB n f) := by
 unfold pantryref03_Field_Is.f
 rw [rlow_eval f hf k hk, rlow_eval n hn k hk2]
 simp only [Option.bind_some]
 congr 1
 unfold sameB
 rw [ByteArray.toList_eq, ByteArray.toList_eq, Bool.eq_iff_iff, beq_iff_eq, beq_iff_eq]
 simp only [lowB]
 exact eq_comm

/-! ## All, Get, Same -/
def allV (n : ByteArray) (l : List S46) : List ByteArray := (l.filter (isOf [n])).map (·.f1)
theorem all_l0 (n : ByteArray) (l : List S46) (hn : n.size ≤ 140737488351232) (hl : ∀ x ∈ l, x.f0.size ≤ 140737488351232) (hlen : l.length < 4398046511104) :
  ∀ (d i : Nat) (acc : List ByteArray) (k : Nat), i + d = l.length → acc.length ≤ i → d < k →
  field_List_All.l0 k n acc l (l.length : Int) (i : Int) = some (acc ++ allV n (l.drop i)) := by
 intro d
 induction d with
 | zero =>
  intro i acc k hi ha hk
  obtain ⟨k, rfl⟩ : ∃ j, k = j + 1 := ⟨k - 1, by omega⟩
  simp only [field_List_All.l0]
  rw [if_neg (by omega), List.drop_of_length_le (by omega)]
  simp [allV]
 | succ d ih =>
  intro i acc k hi ha hk
  obtain ⟨k, rfl⟩ : ∃ j, k = j + 1 := ⟨k - 1, by omega⟩
  have hlt : i < l.length := by omega
  simp only [field_List_All.l0]
  rw [if_pos (by omega), if_pos (by omega), if_pos (by omega), rd39 l i hlt]
  unfold field_Field_named.f
  rw [if_pos ⟨hl _ (List.getElem_mem hlt), by simp, by simpa using hn⟩]
  simp only [Option.bind_some]
  rw [List.drop_eq_getElem_cons hlt, w64n (by omega) (by omega)]
  by_cases hs : isOf [n] l[i] = true
  ·
   have hs' : ([n].any fun n => sameB n l[i].f0) = true := hs
   rw [if_pos hs', if_pos (by omega)]
   have := ih (i + 1) (acc ++ [l[i].f1]) k (by omega) (by simp; omega) (by omega)
   rw [show ((i + 1 : Nat) : Int) = (i : Int) + 1 by omega] at this
   rw [this]
   unfold allV
   rw [List.filter_cons_of_pos hs, List.append_assoc]
   rfl
  ·
   have hs' : ¬ ([n].any fun n => sameB n l[i].f0) = true := hs
   rw [if_neg hs']
   have := ih (i + 1) acc k (by omega) (by omega) (by omega)
   rw [show ((i + 1 : Nat) : Int) = (i : Int) + 1 by omega] at this
   rw [this]
   unfold allV
   rw [List.filter_cons_of_neg hs]
theorem all_eval (n : ByteArray) (l : List S46) (hn : n.size ≤ 140737488351232) (hl : ∀ x ∈ l, x.f0.size ≤ 140737488351232) (hlen : l.length < 4398046511104) (k : Nat) (hk : l.length < k) : field_List_All.f k l n = some (allV n l) := by
 unfold field_List_All.f
 have := all_l0 n l hn hl hlen l.length 0 [] k (by omega) (by simp) hk
 simpa using this
theorem inter_len (sep : List UInt8) (M : Nat) : ∀ (xs : List (List UInt8)), (∀ x ∈ xs, x.length ≤ M) → (sep.intercalate xs).length ≤ xs.length * (M + sep.length) := by
 intro xs
 induction xs with
 | nil => intro _; simp [List.intercalate]
 | cons x xs ih =>
  intro h
  have h1 := h x (by simp)
  have h2 := ih (fun y hy => h y (by simp [hy]))
  cases xs with
  | nil => simp [List.intercalate]; omega
  | cons y ys =>
   have e : sep.intercalate (x :: y :: ys) = x ++ (sep ++ sep.intercalate (y :: ys)) := by simp [List.intercalate]
   rw [e]
   simp only [List.length_append, List.length_cons, Nat.add_mul, Nat.one_mul] at *
   omega
theorem get_eval (n : ByteArray) (l : List S46) (hn : n.size ≤ 140737488351232) (hs : ∀ x ∈ l, x.f0.size ≤ 200 ∧ x.f1.size ≤ 1100) (hlen : l.length ≤ 1000000) (k : Nat) (hk : l.length < k) :
  field_List_Get.f k l n = some (⟨(joinB (allV n l) ⟨#[44, 32]⟩).toArray⟩, decide (0 < (allV n l).length)) := by
 unfold field_List_Get.f
 rw [all_eval n l hn (fun x hx => by have := (hs x hx).1; omega) (by omega) k hk]
 simp only [Option.bind_some]
 have hle : (allV n l).length ≤ l.length := by
  unfold allV
  rw [List.length_map]
  exact List.length_filter_le _ _
 have hok : joinOk (allV n l) ⟨#[44, 32]⟩ := by
  refine ⟨by omega, ?_⟩
  unfold joinB Lib.join
  have := inter_len (⟨#[44, 32]⟩ : ByteArray).data.toList 1100 ((allV n l).map (·.data.toList)) (fun x hx => by
   obtain ⟨y, hy, rfl⟩ := List.mem_map.1 hx
   unfold allV at hy
   obtain ⟨f, hf, rfl⟩ := List.mem_map.1 hy
   have := (hs f (List.mem_filter.1 hf).1).2
   simpa using this)
  rw [List.length_map] at this
  have h2 : ((⟨#[44, 32]⟩ : ByteArray).data.toList).length = 2 := rfl
  rw [h2] at this
  have : (allV n l).length * (1100 + 2) ≤ 1000000 * 1102 := Nat.mul_le_mul_right _ (by omega)
  omega
 unfold strings_Join.f
 rw [if_pos hok]
 simp only [Option.bind_some]
 congr 2
 rw [decide_eq_decide]
 omega

/-! ## FieldParts -/
theorem inter_app (sep : List UInt8) : ∀ (A B : List (List UInt8)), A ≠ [] → B ≠ [] → sep.intercalate (A ++ B) = sep.intercalate A ++ (sep ++ sep.intercalate B) := by
 intro A
 induction A with
 | nil => intro B h; exact absurd rfl h
 | cons x A ih =>
  intro B _ hB
  cases A with
  | nil =>
   cases B with
   | nil => exact absurd rfl hB
   | cons y ys => simp [List.intercalate]
  | cons z A =>
   have := ih B (by simp) hB
   have e1 : sep.intercalate (x :: z :: A) = x ++ (sep ++ sep.intercalate (z :: A)) := by simp [List.intercalate]
   have e2 : sep.intercalate (x :: z :: A ++ B) = x ++ (sep ++ sep.intercalate (z :: A ++ B)) := by simp [List.intercalate]
   rw [e1, e2, this]
   simp
def commaB : ByteArray := ⟨#[44, 32]⟩
def getB (n : ByteArray) (l : List S46) : ByteArray := ⟨(joinB (allV n l) commaB).toArray⟩
theorem getB_list (n : ByteArray) (l : List S46) : (getB n l).toList = joinB (allV n l) commaB := by
 rw [ByteArray.toList_eq]
 simp [getB]
theorem allV_app (n : ByteArray) (a b : List S46) : allV n (a ++ b) = allV n a ++ allV n b := by
 unfold allV
 rw [List.filter_append, List.map_append]
theorem joinB_app (A B : List ByteArray) (hA : A ≠ []) (hB : B ≠ []) : joinB (A ++ B) commaB = joinB A commaB ++ ([44, 32] ++ joinB B commaB) := by
 unfold joinB Lib.join
 rw [List.map_append]
 exact inter_app _ _ _ (by simpa using hA) (by simpa using hB)
theorem getB_size (n : ByteArray) (l : List S46) (h : SmallF l) : (getB n l).size ≤ 80000 := by
 have hle : (allV n l).length ≤ l.length := by
  unfold allV
  rw [List.length_map]
  exact List.length_filter_le _ _
 have := inter_len commaB.data.toList 1100 ((allV n l).map (·.data.toList)) (fun x hx => by
  obtain ⟨y, hy, rfl⟩ := List.mem_map.1 hx
  unfold allV at hy
  obtain ⟨f, hf, rfl⟩ := List.mem_map.1 hy
  have := (h.2 f (List.mem_filter.1 hf).1).2
  simpa using this)
 rw [List.length_map] at this
 have h2 : (commaB.data.toList).length = 2 := rfl
 rw [h2] at this
 have h3 : (allV n l).length * (1100 + 2) ≤ 70 * 1102 := Nat.mul_le_mul_right _ (by have := h.1; omega)
 have h4 : (getB n l).size = (joinB (allV n l) commaB).length := by
  show (joinB (allV n l) commaB).toArray.size = _
  simp
 rw [h4]
 show (List.intercalate _ _).length ≤ _
 omega

/-! ## Lists of elements -/
def endL : Bool → List UInt8 → Nat
 | _, [] => 0
 | q, [c] => if c = 34 then 1 else if q = true ∧ c = 92 then 1 else if q = false ∧ c = 44 then 0 else 1
 | q, c :: d :: l => if c = 34 then 1 + endL (!q) (d :: l) else if q = true ∧ c = 92 then 2 + endL q l else if q = false ∧ c = 44 then 0 else 1 + endL q (d :: l)
theorem endL_le : ∀ (n : Nat) (l : List UInt8) (q : Bool), l.length ≤ n → endL q l ≤ l.length := by
 intro n
 induction n with
 | zero =>
  intro l q h
  obtain rfl := List.eq_nil_of_length_eq_zero (by omega : l.length = 0)
  simp [endL]
 | succ n ih =>
  intro l q h
  match l, h with
  | [], _ => simp [endL]
  | [c], _ =>
   unfold endL
   simp only [List.length_cons, List.length_nil]
   split
   ·
    omega
   ·
    split
    ·
     omega
    ·
     split <;> omega
  | c :: d :: l, h =>
   simp only [List.length_cons] at h
   have h1 := ih (d :: l) (!q) (by simp; omega)
   have h2 := ih l q (by omega)
   have h3 := ih (d :: l) q (by simp; omega)
   unfold endL
   simp only [List.length_cons] at *
   split
   ·
    omega
   ·
    split
    ·
     omega
    ·
     split <;> omega
theorem u8_eq (c d : UInt8) : ((c.toNat : Int) = (d.toNat : Int)) ↔ c = d := by
 constructor
 ·
  intro h
  exact UInt8.toNat_inj.1 (by omega)
 ·
  rintro rfl; rfl
theorem end_past (s : ByteArray) (q : Bool) (i : Nat) (h : s.size ≤ i) (k : Nat) (hk : 0 < k) : sign_end.l0 k s q (i : Int) = some (s.size : Int) := by
 obtain ⟨k, rfl⟩ : ∃ j, k = j + 1 := ⟨k - 1, by omega⟩
 simp only [sign_end.l0]
 rw [if_neg (by omega)]
theorem end_l0 (s : ByteArray) (hs : s.size ≤ 1000000000) : ∀ (d i k : Nat) (q : Bool), i + d = s.size → 2 * d + 1 < k → sign_end.l0 k s q (i : Int) = some ((i + endL q (s.data.toList.drop i) : Nat) : Int) := by
 intro d
 induction d using Nat.strongRecOn with
 | _ d ih =>
  intro i k q hi hk
  have hz : s.data.toList.length = s.size := by simp
  cases d with
  | zero =>
   rw [end_past s q i (by omega) k (by omega), List.drop_of_length_le (by omega)]
   simp only [endL]
   congr 2
   omega
  | succ d =>
   obtain ⟨k, rfl⟩ : ∃ j, k = j + 1 := ⟨k - 1, by omega⟩
   have hlt : i < s.data.toList.length := by omega
   have n1 : ∀ (kk : Nat), 2 * d + 1 < kk → ∀ (q : Bool), sign_end.l0 kk s q ((i : Int) + 1) = some ((i + 1 + endL q (s.data.toList.drop (i + 1)) : Nat) : Int) := fun kk hkk q => by
    have := ih d (by omega) (i + 1) kk q (by omega) hkk
    rwa [show ((i + 1 : Nat) : Int) = (i : Int) + 1 by omega] at this
   have n2 : d = 0 ∨ 0 < d ∧ ∀ (kk : Nat), 2 * d < kk → ∀ (q : Bool), sign_end.l0 kk s q ((i : Int) + 1 + 1) = some ((i + 2 + endL q (s.data.toList.drop (i + 2)) : Nat) : Int) := by
    rcases Nat.eq_zero_or_pos d with h | h
    ·
     exact .inl h
    ·
     refine .inr ⟨h, fun kk hkk q => ?_⟩
     have := ih (d - 1) (by omega) (i + 2) kk q (by omega) (by omega)
     rwa [show ((i + 2 : Nat) : Int) = (i : Int) + 1 + 1 by omega] at this
   simp only [sign_end.l0]
   have hbt := bt_at2 s i hlt
   rw [if_pos (by omega), if_pos (by omega), hbt, w64n (by omega) (by omega)]
   rw [List.drop_eq_getElem_cons hlt]
   have e34 : ((s.data.toList[i]).toNat : Int) = 34 ↔ s.data.toList[i] = 34 := u8_eq _ 34
   have e92 : ((s.data.toList[i]).toNat : Int) = 92 ↔ s.data.toList[i] = 92 := u8_eq _ 92
   have e44 : ((s.data.toList[i]).toNat : Int) = 44 ↔ s.data.toList[i] = 44 := u8_eq _ 44
   generalize s.data.toList[i] = c at *
   have hstep : ∀ (q q' : Bool), endL q (c :: s.data.toList.drop (i + 1)) = 1 + endL q' (s.data.toList.drop (i + 1)) → some ((i + 1 + endL q' (s.data.toList.drop (i + 1)) : Nat) : Int) = some ((i + endL q (c :: s.data.toList.drop (i + 1)) : Nat) : Int) := by
    intro q q' h
    rw [h]
    congr 2
    omega
   by_cases h1 : c = 34
   ·
    rw [if_pos (e34.2 h1), n1 _ (by omega)]
    refine hstep _ _ ?_
    subst h1
    cases s.data.toList.drop (i + 1) <;> simp [endL]
   ·
    rw [if_neg (fun h => h1 (e34.1 h))]
    cases q with
    | true =>
     rw [if_pos rfl]
     obtain ⟨k, rfl⟩ : ∃ j, k = j + 1 := ⟨k - 1, by omega⟩
     simp only [sign_end.j1]
     by_cases h2 : c = 92
     ·
      have hb : (((c.toNat : Int)) == 92) = true := beq_iff_eq.2 (e92.2 h2)
      rw [hb, if_pos rfl, w64n (x := (i : Int) + 1) (by omega) (by omega), w64n (by omega) (by omega)]
      rcases n2 with rfl | ⟨hd0, n2⟩
      ·
       have := end_past s true (i + 2) (by omega) k (by omega)
       rw [show ((i + 2 : Nat) : Int) = (i : Int) + 1 + 1 by omega] at this
       rw [this, List.drop_of_length_le (by omega)]
       subst h2
       have e1 : endL true [(92 : UInt8)] = 1 := by decide
       rw [e1]
       exact congrArg some (by omega)
      ·
       rw [n2 _ (by omega)]
       subst h2
       cases hd : s.data.toList.drop (i + 1) with
       | nil =>
        have := congrArg List.length hd
        rw [List.length_drop] at this
        simp only [List.length_nil] at this
        omega
       | cons x l =>
        have e2 : s.data.toList.drop (i + 2) = l := by
         have := congrArg (List.drop 1) hd
         rw [List.drop_drop] at this
         simpa using this
        rw [e2]
        have e1 : endL true ((92 : UInt8) :: x :: l) = 2 + endL true l := by simp [endL]
        rw [e1]
        exact congrArg some (by omega)
     ·
      have hb : (((c.toNat : Int)) == 92) = false := beq_eq_false_iff_ne.2 (fun h => h2 (e92.1 h))
      rw [hb, if_neg (by simp), if_pos trivial, w64n (by omega) (by omega), n1 _ (by omega)]
      refine hstep _ _ ?_
      cases s.data.toList.drop (i + 1) <;> simp [endL, h1, h2]
    | false =>
     rw [if_neg (by simp)]
     obtain ⟨k, rfl⟩ : ∃ j, k = j + 1 := ⟨k - 1, by omega⟩
     simp only [sign_end.j1]
     rw [if_neg (by simp), if_neg (by simp), if_pos (by omega), if_pos (by omega), hbt]
     by_cases h3 : c = 44
     ·
      rw [if_pos (e44.2 h3)]
      subst h3
      cases s.data.toList.drop (i + 1) <;> simp [endL]
     ·
      rw [if_neg (fun h => h3 (e44.1 h)), w64n (by omega) (by omega), n1 _ (by omega)]
      refine hstep _ _ ?_
      cases s.data.toList.drop (i + 1) <;> simp [endL, h1, h3]

def toB (l : List UInt8) : ByteArray := ⟨l.toArray⟩
theorem toB_list (l : List UInt8) : (toB l).data.toList = l := by simp [toB]
theorem of_list (s : ByteArray) : toB s.data.toList = s := by cases s; simp [toB]
theorem size_l (s : ByteArray) : s.size = s.data.toList.length := by simp
theorem ext_l (s : ByteArray) (a b : Nat) : (s.extract a b).data.toList = (s.data.toList.drop a).take (b - a) := by
 rw [ByteArray.data_extract, Array.toList_extract]
def trimL (l : List UInt8) : List UInt8 := Lib.trimS l [32, 9]
theorem dropWhile_len {α : Type} (p : α → Bool) (l : List α) : (l.dropWhile p).length ≤ l.length := (List.dropWhile_sublist p).length_le
theorem trimL_len (l : List UInt8) : (trimL l).length ≤ l.length := by
 unfold trimL Lib.trimS Lib.trimLeftS Lib.trimRightS
 refine Nat.le_trans (dropWhile_len _ _) ?_
 rw [List.length_reverse]
 refine Nat.le_trans (dropWhile_len _ _) ?_
 rw [List.length_reverse]
 exact Nat.le_refl _
theorem trim_eval (s : ByteArray) (hs : s.size ≤ 9223372036854775807) : sign_Trim.f s = some (toB (trimL s.data.toList)) := by
 unfold sign_Trim.f strings_Trim.f
 rw [if_pos ⟨hs, by decide, by decide⟩]
 rfl
def listL : Nat → List UInt8 → List (List UInt8)
 | 0, _ => []
 | k + 1, l => if l = [] then [] else (if trimL (l.take (endL false l)) = [] then [] else [trimL (l.take (endL false l))]) ++ listL k (l.drop (endL false l + 1))
theorem list_l0 : ∀ (n : Nat) (s : ByteArray) (acc : List ByteArray) (k : Nat), s.size ≤ n → n ≤ 1000000000 → acc.length + s.size ≤ 1000000000 → 3 * n + 10 < k →
  sign_List.l0 k s acc = some (acc ++ (listL (n + 1) s.data.toList).map toB) := by
 intro n
 induction n with
 | zero =>
  intro s acc k h0 h1 h2 hk
  obtain ⟨k, rfl⟩ : ∃ j, k = j + 1 := ⟨k - 1, by omega⟩
  have hnil : s.data.toList = [] := List.eq_nil_of_length_eq_zero (by rw [← size_l]; omega)
  simp only [sign_List.l0]
  rw [ByteArray.toList_eq, hnil, if_pos rfl]
  simp [listL]
 | succ n ih =>
  intro s acc k h0 h1 h2 hk
  obtain ⟨k, rfl⟩ : ∃ j, k = j + 1 := ⟨k - 1, by omega⟩
  simp only [sign_List.l0]
  rw [ByteArray.toList_eq]
  by_cases hnil : s.data.toList = []
  ·
   rw [if_pos hnil, hnil]
   simp [listL]
  ·
   rw [if_neg hnil]
   have hpos : 0 < s.size := by
    rw [size_l]
    exact List.length_pos_iff.2 hnil
   have he : sign_end.f k s = some ((endL false s.data.toList : Nat) : Int) := by
    unfold sign_end.f
    have := end_l0 s (by omega) s.size 0 k false (by omega) (by omega)
    rw [List.drop_zero, Nat.zero_add] at this
    exact this
   have hle := endL_le s.data.toList.length s.data.toList false (Nat.le_refl _)
   rw [← size_l] at hle
   rw [he]
   simp only [Option.bind_some]
   rw [listL, if_neg hnil]
   generalize hE : endL false s.data.toList = E at *
   rw [if_pos (by omega), if_pos (by omega), trim_eval _ (by rw [ByteArray.size_extract]; omega)]
   simp only [Option.bind_some]
   rw [ByteArray.toList_eq, toB_list, ext_l, Int.toNat_natCast, List.drop_zero, Nat.sub_zero]
   have hmn : mn (wrap64 ((E : Int) + 1)) (s.size : Int) = ((min (E + 1) s.size : Nat) : Int) := by
    rw [w64n (by omega) (by omega)]
    unfold mn
    split <;> omega
   rw [hmn, Int.toNat_natCast]
   have hsz : (s.extract (min (E + 1) s.size) s.size).size ≤ n := by rw [ByteArray.size_extract]; omega
   have hdl : (s.extract (min (E + 1) s.size) s.size).data.toList = s.data.toList.drop (E + 1) := by
    rw [ext_l]
    have hz := size_l s
    by_cases hc : E + 1 ≤ s.size
    ·
     rw [Nat.min_eq_left hc]
     exact List.take_of_length_le (by rw [List.length_drop]; omega)
    ·
     rw [List.drop_of_length_le (l := s.data.toList) (i := E + 1) (by omega), List.drop_of_length_le (by omega)]
     exact List.take_nil
   have hsz2 : (s.extract (min (E + 1) s.size) s.size).size ≤ s.size - 1 := by rw [ByteArray.size_extract]; omega
   by_cases ht : trimL (s.data.toList.take E) = []
   ·
    rw [if_pos ht, if_pos ht, if_pos (by omega), if_pos (by omega), List.nil_append]
    rw [ih _ acc k hsz (by omega) (by omega) (by omega), hdl]
   ·
    rw [if_neg ht, if_neg ht, if_pos (by omega), if_pos (by omega), if_pos (by omega)]
    rw [ih _ (acc ++ [toB (trimL (s.data.toList.take E))]) k hsz (by omega) (by simp; omega) (by omega), hdl]
    simp
theorem list_eval (s : ByteArray) (hs : s.size ≤ 1000000) (k : Nat) (hk : 3000100 < k) : sign_List.f k s = some ((listL (s.size + 1) s.data.toList).map toB) := by
 unfold sign_List.f
 have := list_l0 s.size s [] k (Nat.le_refl _) (by omega) (by simp; omega) (by omega)
 simpa using this
theorem listL_len : ∀ (n : Nat) (l : List UInt8), (listL n l).length ≤ n ∧ ∀ x ∈ listL n l, x.length ≤ l.length := by
 intro n
 induction n with
 | zero => intro l; simp [listL]
 | succ n ih =>
  intro l
  rw [listL]
  by_cases h : l = []
  ·
   rw [if_pos h]; simp
  ·
   rw [if_neg h]
   obtain ⟨i1, i2⟩ := ih (l.drop (endL false l + 1))
   have hd : (l.drop (endL false l + 1)).length ≤ l.length := by rw [List.length_drop]; omega
   by_cases ht : trimL (l.take (endL false l)) = []
   ·
    rw [if_pos ht, List.nil_append]
    exact ⟨by omega, fun x hx => Nat.le_trans (i2 x hx) hd⟩
   ·
    rw [if_neg ht]
    refine ⟨by simp; omega, fun x hx => ?_⟩
    rcases List.mem_append.1 hx with hx | hx
    ·
     obtain rfl := List.mem_singleton.1 hx
     refine Nat.le_trans (trimL_len _) ?_
     rw [List.length_take]
     omega
    ·
     exact Nat.le_trans (i2 x hx) hd
def elemsB (n : ByteArray) (l : List S46) : List ByteArray := (listL ((getB n l).size + 1) (getB n l).data.toList).map toB
theorem elems_eval (n : ByteArray) (l : List S46) (hn : n.size ≤ 1000) (h : SmallF l) (k : Nat) (hk : 3000100 < k) : field_List_Elements.f k l n = some (elemsB n l) := by
 unfold field_List_Elements.f
 have g : field_List_Get.f k l n = some (getB n l, decide (0 < (allV n l).length)) := get_eval n l (by omega) h.2 (by have := h.1; omega) k (by have := h.1; omega)
 rw [g]
 simp only [Option.bind_some]
 have := getB_size n l h
 rw [list_eval _ (by omega) k hk]
 rfl
theorem elems_ok (n : ByteArray) (l : List S46) (h : SmallF l) : (elemsB n l).length ≤ 100000 ∧ ∀ x ∈ elemsB n l, x.size ≤ 80000 := by
 have hg := getB_size n l h
 obtain ⟨i1, i2⟩ := listL_len ((getB n l).size + 1) (getB n l).data.toList
 unfold elemsB
 refine ⟨by rw [List.length_map]; omega, fun x hx => ?_⟩
 obtain ⟨y, hy, rfl⟩ := List.mem_map.1 hx
 have := i2 y hy
 rw [← size_l] at this
 rw [size_l, toB_list]
 omega

theorem has_eval (n w : ByteArray) (l : List S46) (hn : n.size ≤ 1000) (hw : w.size ≤ 1000) (h : SmallF l) (k : Nat) (hk : 3000100 < k) : field_List_Has.f k l n w = some ((elemsB n l).any fun e => sameB e w) := by
 unfold field_List_Has.f
 rw [elems_eval n l hn h k hk]
 simp only [Option.bind_some]
 obtain ⟨e1, e2⟩ := elems_ok n l h
 rw [if_pos ⟨by omega, by omega, fun x hx => by have := e2 x hx; omega⟩]

/-! Small letters of small letters -/
theorem lowU_idem (c : UInt8) : lowU (lowU c) = lowU c := by
 unfold lowU
 by_cases h : 65 ≤ c.toNat ∧ c.toNat ≤ 90
 ·
  rw [if_pos h]
  have e : (UInt8.ofNat (c.toNat + 32)).toNat = c.toNat + 32 := by simp; omega
  rw [if_neg (by rw [e]; omega)]
 ·
  rw [if_neg h, if_neg h]
theorem lowL_idem (l : List UInt8) : lowL (lowL l) = lowL l := by
 unfold lowL
 rw [List.map_map]
 exact List.map_congr_left fun c _ => lowU_idem c
theorem sameB_low (a b : ByteArray) : sameB (lowB a) b = sameB a b := by
 unfold sameB
 rw [lowB_list, lowL_idem]
/-! ## The reference's lists -/
def rtr (l : List UInt8) : List UInt8 := (l.reverse.dropWhile (([32, 9] : List UInt8).contains ·)).reverse
def blk (c : UInt8) : Bool := ([32, 9] : List UInt8).contains c
theorem blank_eval (c : UInt8) : pantryref01_blank.f (c.toNat : Int) = some (blk c) := by
 have e32 : (c.toNat : Int) = 32 ↔ c = 32 := u8_eq c 32
 have e9 : (c.toNat : Int) = 9 ↔ c = 9 := u8_eq c 9
 unfold pantryref01_blank.f blk
 by_cases h : c = 32
 ·
  subst h; rfl
 ·
  rw [if_neg (fun x => h (e32.1 x))]
  by_cases h2 : c = 9
  ·
   subst h2; rfl
  ·
   have hb : ((c.toNat : Int) == 9) = false := beq_eq_false_iff_ne.2 (fun x => h2 (e9.1 x))
   rw [hb]
   simp [h, h2]
theorem rtr_snoc (l : List UInt8) (x : UInt8) : rtr (l ++ [x]) = if blk x = true then rtr l else l ++ [x] := by
 unfold rtr blk
 rw [List.reverse_append, List.reverse_singleton, List.singleton_append, List.dropWhile_cons]
 by_cases h : ([32, 9] : List UInt8).contains x = true
 ·
  rw [if_pos h, if_pos h]
 ·
  rw [if_neg h, if_neg h]
  simp
theorem rtrP_cons (p : UInt8 → Bool) (l : List UInt8) (x : UInt8) : ((x :: l).reverse.dropWhile p).reverse = if (l.reverse.dropWhile p).reverse = [] ∧ p x = true then [] else x :: (l.reverse.dropWhile p).reverse := by
 rw [List.reverse_cons, List.dropWhile_append]
 cases h : l.reverse.dropWhile p with
 | nil =>
  by_cases h2 : p x = true
  ·
   simp [h2]
  ·
   simp [h2]
 | cons y ys => simp
theorem rtr_cons (l : List UInt8) (x : UInt8) : rtr (x :: l) = if rtr l = [] ∧ blk x = true then [] else x :: rtr l := rtrP_cons blk l x
theorem trimL_eq (l : List UInt8) : rtr (l.dropWhile blk) = trimL l := by
 show rtr (l.dropWhile blk) = (rtr l).dropWhile blk
 induction l with
 | nil => rfl
 | cons x l ih =>
  rw [rtr_cons, List.dropWhile_cons]
  by_cases h : blk x = true
  ·
   rw [if_pos h, ih]
   by_cases h2 : rtr l = []
   ·
    rw [if_pos ⟨h2, h⟩, h2]
   ·
    rw [if_neg (fun x => h2 x.1), List.dropWhile_cons, if_pos h]
  ·
   rw [if_neg h, rtr_cons, if_neg (fun x => h x.2), List.dropWhile_cons, if_neg h]
theorem sub_snoc (l : List UInt8) (a b : Nat) (hab : a ≤ b) (h : b < l.length) : (l.drop a).take (b + 1 - a) = (l.drop a).take (b - a) ++ [l[b]] := by
 have h1 : b - a < (l.drop a).length := by rw [List.length_drop]; omega
 have h2 := List.take_succ_eq_append_getElem h1
 rw [List.getElem_drop] at h2
 rw [show b + 1 - a = b - a + 1 by omega, h2]
 have : a + (b - a) = b := by omega
 simp only [this]
theorem ext_toB (s : ByteArray) (a b : Nat) : s.extract a b = toB ((s.data.toList.drop a).take (b - a)) := by
 rw [← ext_l, of_list]
theorem rtrim_l1 (s : ByteArray) (hs : s.size ≤ 1000000000) (a : Nat) : ∀ (d k : Nat), a + d ≤ s.size → d < k → pantryref01_Trim.l1 k s (a : Int) ((a + d : Nat) : Int) = some (toB (rtr ((s.data.toList.drop a).take d))) := by
 intro d
 induction d with
 | zero =>
  intro k hd hk
  obtain ⟨k, rfl⟩ : ∃ j, k = j + 1 := ⟨k - 1, by omega⟩
  simp only [pantryref01_Trim.l1]
  rw [if_neg (by omega), if_pos (by omega), if_pos (by omega), if_pos (by omega), ext_toB]
  simp [rtr]
 | succ d ih =>
  intro k hd hk
  obtain ⟨k, rfl⟩ : ∃ j, k = j + 1 := ⟨k - 1, by omega⟩
  have hz := size_l s
  have hlt : a + d < s.data.toList.length := by omega
  simp only [pantryref01_Trim.l1]
  have hw : wrap64 (((a + (d + 1) : Nat) : Int) - 1) = ((a + d : Nat) : Int) := by
   rw [w64n (by omega) (by omega)]
   omega
  rw [hw, if_pos (by omega), if_pos (by omega), if_pos (by omega), bt_at2 s (a + d) hlt, blank_eval]
  simp only [Option.bind_some]
  have hsn := sub_snoc s.data.toList a (a + d) (by omega) hlt
  rw [show a + d + 1 - a = d + 1 by omega, show a + d - a = d by omega] at hsn
  rw [hsn, rtr_snoc]
  by_cases h : blk s.data.toList[a + d] = true
  ·
   rw [if_pos h, if_pos h]
   exact ih k (by omega) (by omega)
  ·
   rw [if_neg h, if_neg h, if_pos (by omega), if_pos (by omega), if_pos (by omega), ext_toB, Int.toNat_natCast, Int.toNat_natCast, show a + (d + 1) - a = d + 1 by omega, hsn]
theorem rtrim_l0 (s : ByteArray) (hs : s.size ≤ 1000000000) : ∀ (d a k : Nat), a + d = s.size → 2 * d + 3 < k → pantryref01_Trim.l0 k s (a : Int) (s.size : Int) = some (toB (rtr ((s.data.toList.drop a).dropWhile blk))) := by
 intro d
 induction d with
 | zero =>
  intro a k hd hk
  obtain ⟨k, rfl⟩ : ∃ j, k = j + 1 + 1 := ⟨k - 2, by omega⟩
  have hz := size_l s
  simp only [pantryref01_Trim.l0]
  rw [if_neg (by omega)]
  simp only [pantryref01_Trim.j1]
  have := rtrim_l1 s hs a 0 k (by omega) (by omega)
  rw [show a + 0 = s.size by omega] at this
  rw [this, List.drop_of_length_le (by omega)]
  rfl
 | succ d ih =>
  intro a k hd hk
  obtain ⟨k, rfl⟩ : ∃ j, k = j + 1 + 1 := ⟨k - 2, by omega⟩
  have hz := size_l s
  have hlt : a < s.data.toList.length := by omega
  simp only [pantryref01_Trim.l0]
  rw [if_pos (by omega), if_pos (by omega), if_pos (by omega), bt_at2 s a hlt, blank_eval]
  simp only [Option.bind_some]
  rw [List.drop_eq_getElem_cons hlt, List.dropWhile_cons]
  by_cases h : blk s.data.toList[a] = true
  ·
   rw [if_pos h, if_pos h, w64n (by omega) (by omega)]
   have := ih (a + 1) (k + 1) (by omega) (by omega)
   rw [show ((a + 1 : Nat) : Int) = (a : Int) + 1 by omega] at this
   exact this
  ·
   rw [if_neg h, if_neg h]
   simp only [pantryref01_Trim.j1]
   have := rtrim_l1 s hs a (d + 1) k (by omega) (by omega)
   rw [show a + (d + 1) = s.size by omega] at this
   rw [this, ← List.drop_eq_getElem_cons hlt, List.take_of_length_le (by rw [List.length_drop]; omega)]
theorem rtrim_eval (s : ByteArray) (hs : s.size ≤ 1000000000) (k : Nat) (hk : 2 * s.size + 3 < k) : pantryref01_Trim.f k s = some (toB (trimL s.data.toList)) := by
 unfold pantryref01_Trim.f
 have := rtrim_l0 s hs s.size 0 k (by omega) hk
 rw [List.drop_zero, trimL_eq] at this
 exact this
def quotL : Bool → Bool → List UInt8 → List Bool
 | _, _, [] => []
 | q, sk, c :: l => (q || c == 34) :: (if sk = true then quotL q false l else if q = true ∧ c = 92 then quotL q true l else if c = 34 then quotL (!q) sk l else quotL q sk l)
theorem quotL_len : ∀ (l : List UInt8) (q sk : Bool), (quotL q sk l).length = l.length := by
 intro l
 induction l with
 | nil => intro q sk; rfl
 | cons c l ih =>
  intro q sk
  unfold quotL
  rw [List.length_cons, List.length_cons]
  split
  ·
   rw [ih]
  ·
   split
   ·
    rw [ih]
   ·
    split <;> rw [ih]
theorem set_take {α : Type} (l : List α) (i : Nat) (v : α) (h : i < l.length) : (l.set i v).take (i + 1) = l.take i ++ [v] := by
 have h1 : i < (l.set i v).length := by simpa using h
 rw [List.take_succ_eq_append_getElem h1, List.take_set_of_le (Nat.le_refl _)]
 simp
theorem quoted_l0 (s : ByteArray) (hs : s.size ≤ 1000000000) : ∀ (d i : Nat) (out : List Bool) (q sk : Bool) (k : Nat), i + d = s.size → out.length = s.size → 3 * d < k →
  pantryref01_quoted.l0 k s out q sk (i : Int) = some (out.take i ++ quotL q sk (s.data.toList.drop i)) := by
 intro d
 induction d with
 | zero =>
  intro i out q sk k hi ho hk
  obtain ⟨k, rfl⟩ : ∃ j, k = j + 1 := ⟨k - 1, by omega⟩
  have hz := size_l s
  simp only [pantryref01_quoted.l0]
  rw [if_neg (by omega), List.drop_of_length_le (by omega), List.take_of_length_le (by omega)]
  simp [quotL]
 | succ d ih =>
  intro i out q sk k hi ho hk
  obtain ⟨k, rfl⟩ : ∃ j, k = j + 1 + 1 + 1 := ⟨k - 3, by omega⟩
  have hz := size_l s
  have hlt : i < s.data.toList.length := by omega
  have hbt := bt_at2 s i hlt
  have e34 : ((s.data.toList[i]).toNat : Int) = 34 ↔ s.data.toList[i] = 34 := u8_eq _ 34
  have e92 : ((s.data.toList[i]).toNat : Int) = 92 ↔ s.data.toList[i] = 92 := u8_eq _ 92
  rw [List.drop_eq_getElem_cons hlt]
  have hcont : ∀ (v q' sk' : Bool) (kk : Nat), 3 * d < kk → v = (q || s.data.toList[i] == 34) → (quotL q sk (s.data.toList[i] :: s.data.toList.drop (i + 1)) = (q || s.data.toList[i] == 34) :: quotL q' sk' (s.data.toList.drop (i + 1))) →
    pantryref01_quoted.l0 kk s (out.set i v) q' sk' ((i : Int) + 1) = some (out.take i ++ quotL q sk (s.data.toList[i] :: s.data.toList.drop (i + 1))) := by
   intro v q' sk' kk hkk hv he
   have := ih (i + 1) (out.set i v) q' sk' kk (by omega) (by simpa using ho) hkk
   rw [show ((i + 1 : Nat) : Int) = (i : Int) + 1 by omega] at this
   rw [this, he, set_take _ _ _ (by omega), hv]
   simp
  have key : ∀ v : Bool, v = (q || s.data.toList[i] == 34) → pantryref01_quoted.j1 (k + 1 + 1) s (out.set i v) q sk (i : Int) = some (out.take i ++ quotL q sk (s.data.toList[i] :: s.data.toList.drop (i + 1))) := by
   intro v hv
   simp only [pantryref01_quoted.j1]
   rw [hbt, w64n (by omega) (by omega)]
   cases sk with
   | true =>
    rw [if_pos rfl]
    exact hcont v q false _ (by omega) hv (by simp [quotL])
   | false =>
    rw [if_neg (by simp)]
    have j2 : ∀ b : Bool, b = decide (q = true ∧ s.data.toList[i] = 92) → pantryref01_quoted.j2 (k + 1) s (out.set i v) q false (i : Int) b = some (out.take i ++ quotL q false (s.data.toList[i] :: s.data.toList.drop (i + 1))) := by
     intro b hb
     simp only [pantryref01_quoted.j2]
     rw [hbt, w64n (by omega) (by omega)]
     by_cases h : q = true ∧ s.data.toList[i] = 92
     ·
      rw [hb, if_pos (decide_eq_true h)]
      exact hcont v q true _ (by omega) hv (by simp only [quotL]; rw [if_neg (by simp), if_pos h])
     ·
      rw [hb, if_neg (by rw [decide_eq_false h]; simp), if_pos (by omega), if_pos (by omega)]
      by_cases h2 : s.data.toList[i] = 34
      ·
       rw [if_pos (e34.2 h2)]
       exact hcont v (!q) false _ (by omega) hv (by simp only [quotL]; rw [if_neg (by simp), if_neg h, if_pos h2])
      ·
       rw [if_neg (fun x => h2 (e34.1 x))]
       exact hcont v q false _ (by omega) hv (by simp only [quotL]; rw [if_neg (by simp), if_neg h, if_neg h2])
    cases q with
    | true =>
     rw [if_pos rfl, if_pos (by omega), if_pos (by omega)]
     refine j2 _ ?_
     by_cases h : s.data.toList[i] = 92
     ·
      rw [decide_eq_true ⟨rfl, h⟩]
      exact beq_iff_eq.2 (e92.2 h)
     ·
      rw [decide_eq_false (fun x => h x.2)]
      exact beq_eq_false_iff_ne.2 (fun x => h (e92.1 x))
    | false =>
     rw [if_neg (by simp)]
     exact j2 _ (by simp)
  simp only [pantryref01_quoted.l0]
  rw [if_pos (by omega), Int.toNat_natCast, hbt]
  cases q with
  | true =>
   rw [if_pos rfl, if_pos (by omega), if_pos (by omega)]
   exact key _ (by simp)
  | false =>
   rw [if_neg (by simp), if_pos (by omega), if_pos (by omega)]
   refine key _ ?_
   rw [Bool.false_or]
   by_cases h : s.data.toList[i] = 34
   ·
    rw [beq_iff_eq.2 h]
    exact beq_iff_eq.2 (e34.2 h)
   ·
    rw [beq_eq_false_iff_ne.2 h]
    exact beq_eq_false_iff_ne.2 (fun x => h (e34.1 x))
theorem quoted_eval (s : ByteArray) (hs : s.size ≤ 1000000000) (k : Nat) (hk : 3 * s.size < k) : pantryref01_quoted.f k s = some (quotL false false s.data.toList) := by
 unfold pantryref01_quoted.f
 rw [if_pos (by omega), if_pos (by omega)]
 have := quoted_l0 s hs s.size 0 (List.replicate s.size false) false false k (by omega) (by simp) hk
 simpa using this
def addE (cur : List UInt8) : List (List UInt8) := if trimL cur = [] then [] else [trimL cur]
def refgo : List UInt8 → List UInt8 → List Bool → List (List UInt8)
 | cur, [], _ => addE cur
 | cur, _ :: _, [] => addE cur
 | cur, c :: l, f :: fs => if c = 44 ∧ f = false then addE cur ++ refgo [] l fs else refgo (cur ++ [c]) l fs
theorem rlist_l0 (s : ByteArray) (hs : s.size ≤ 1000000000) (qs : List Bool) (hq : qs.length = s.size) : ∀ (d last i : Nat) (out : List ByteArray) (k : Nat), i + d = s.size → last ≤ i → out.length ≤ i → 2 * d + 2 * s.size + 10 < k →
  pantryref01_List.l0 k s qs out (last : Int) (i : Int) = some (out ++ (refgo ((s.data.toList.drop last).take (i - last)) (s.data.toList.drop i) (qs.drop i)).map toB) := by
 have hz := size_l s
 have trim : ∀ (last i : Nat) (k : Nat), last ≤ i → i ≤ s.size → 2 * s.size + 3 < k → pantryref01_Trim.f k (s.extract last i) = some (toB (trimL ((s.data.toList.drop last).take (i - last)))) := by
  intro last i k h1 h2 hk
  rw [rtrim_eval _ (by rw [ByteArray.size_extract]; omega) k (by rw [ByteArray.size_extract]; omega), ext_l]
 have emp : ∀ l : List UInt8, (toB l).toList = [] ↔ l = [] := fun l => by rw [ByteArray.toList_eq, toB_list]
 intro d
 induction d with
 | zero =>
  intro last i out k hi hl ho hk
  obtain ⟨k, rfl⟩ : ∃ j, k = j + 1 + 1 + 1 := ⟨k - 3, by omega⟩
  simp only [pantryref01_List.l0]
  rw [if_pos (by omega), if_neg (by omega)]
  simp only [pantryref01_List.j1]
  rw [if_neg (by simp), if_pos (by omega), if_pos (by omega), if_pos (by omega), Int.toNat_natCast, Int.toNat_natCast, trim last i _ hl (by omega) (by omega), w64n (by omega) (by omega)]
  simp only [Option.bind_some]
  rw [List.drop_of_length_le (l := s.data.toList) (i := i) (by omega)]
  simp only [refgo, addE, pantryref01_List.l0]
  by_cases h : trimL ((s.data.toList.drop last).take (i - last)) = []
  ·
   rw [if_pos ((emp _).2 h), if_neg (by omega), if_pos h]
   simp
  ·
   rw [if_neg (fun x => h ((emp _).1 x)), if_pos (by omega), if_neg (by omega), if_neg h]
   simp
 | succ d ih =>
  intro last i out k hi hl ho hk
  obtain ⟨k, rfl⟩ : ∃ j, k = j + 1 + 1 := ⟨k - 2, by omega⟩
  have hlt : i < s.data.toList.length := by omega
  have hlq : i < qs.length := by omega
  have e44 : ((s.data.toList[i]).toNat : Int) = 44 ↔ s.data.toList[i] = 44 := u8_eq _ 44
  rw [List.drop_eq_getElem_cons hlt, List.drop_eq_getElem_cons hlq]
  simp only [refgo]
  have goon : ¬ (s.data.toList[i] = 44 ∧ qs[i] = false) → pantryref01_List.j1 (k + 1) s qs out (last : Int) (i : Int) true = some (out ++ (if s.data.toList[i] = 44 ∧ qs[i] = false then addE ((s.data.toList.drop last).take (i - last)) ++ refgo [] (s.data.toList.drop (i + 1)) (qs.drop (i + 1)) else refgo ((s.data.toList.drop last).take (i - last) ++ [s.data.toList[i]]) (s.data.toList.drop (i + 1)) (qs.drop (i + 1))).map toB) := by
   intro h
   rw [if_neg h, ← sub_snoc _ _ _ hl hlt]
   simp only [pantryref01_List.j1]
   rw [if_pos trivial, w64n (by omega) (by omega)]
   have := ih last (i + 1) out k (by omega) (by omega) (by omega) (by omega)
   rw [show ((i + 1 : Nat) : Int) = (i : Int) + 1 by omega] at this
   exact this
  simp only [pantryref01_List.l0]
  rw [if_pos (by omega), if_pos (by omega), if_pos (by omega), bt_at2 s i hlt]
  by_cases h1 : s.data.toList[i] = 44
  ·
   rw [if_pos (e44.2 h1), if_pos (by omega)]
   have hr : rdOf false qs (i : Int) = qs[i] := by simp [rdOf, hlq]
   rw [hr]
   cases h2 : qs[i] with
   | true =>
    have := goon (by rw [h2]; simp)
    rw [h2] at this
    exact this
   | false =>
    rw [if_pos ⟨h1, rfl⟩]
    simp only [pantryref01_List.j1]
    rw [if_neg (by simp), if_pos (by omega), if_pos (by omega), if_pos (by omega), Int.toNat_natCast, Int.toNat_natCast, trim last i _ hl (by omega) (by omega), w64n (by omega) (by omega)]
    simp only [Option.bind_some]
    have nx : ∀ o : List ByteArray, o.length ≤ i + 1 → pantryref01_List.l0 k s qs o ((i : Int) + 1) ((i : Int) + 1) = some (o ++ (refgo [] (s.data.toList.drop (i + 1)) (qs.drop (i + 1))).map toB) := by
     intro o ho
     have := ih (i + 1) (i + 1) o k (by omega) (by omega) ho (by omega)
     rw [show ((i + 1 : Nat) : Int) = (i : Int) + 1 by omega, Nat.sub_self, List.take_zero] at this
     exact this
    unfold addE
    by_cases h : trimL ((s.data.toList.drop last).take (i - last)) = []
    ·
     rw [if_pos ((emp _).2 h), if_pos h, nx _ (by omega)]
     simp
    ·
     rw [if_neg (fun x => h ((emp _).1 x)), if_neg h, if_pos (by omega), nx _ (by simp; omega)]
     simp
  ·
   rw [if_neg (fun x => h1 (e44.1 x))]
   exact goon (fun x => h1 x.1)
theorem refgo_end : ∀ (n : Nat) (l : List UInt8) (q : Bool) (cur : List UInt8), l.length ≤ n →
  refgo cur l (quotL q false l) = addE (cur ++ l.take (endL q l)) ++ (if endL q l < l.length then refgo [] (l.drop (endL q l + 1)) (quotL false false (l.drop (endL q l + 1))) else []) := by
 intro n
 induction n with
 | zero =>
  intro l q cur h
  obtain rfl := List.eq_nil_of_length_eq_zero (by omega : l.length = 0)
  simp [refgo, endL, quotL]
 | succ n ih =>
  intro l q cur h
  match l, h with
  | [], _ => simp [refgo, endL, quotL]
  | [c], _ =>
   by_cases h1 : c = 34
   ·
    subst h1
    simp [refgo, endL, quotL]
   ·
    by_cases h2 : q = true ∧ c = 92
    ·
     obtain ⟨rfl, rfl⟩ := h2
     simp [refgo, endL, quotL]
    ·
     by_cases h3 : q = false ∧ c = 44
     ·
      obtain ⟨rfl, rfl⟩ := h3
      simp [refgo, endL, quotL]
     ·
      have h4 : ¬ (c = 44 ∧ q = false) := fun x => h3 ⟨x.2, x.1⟩
      have e : endL q [c] = 1 := by simp only [endL]; rw [if_neg h1, if_neg h2, if_neg h3]
      rw [e]
      simp only [quotL, refgo]
      rw [if_neg (by intro x; exact h4 ⟨x.1, by cases q <;> simp_all⟩)]
      simp
  | c :: d :: l, h =>
   simp only [List.length_cons] at h
   by_cases h1 : c = 34
   ·
    subst h1
    have e : endL q (34 :: d :: l) = 1 + endL (!q) (d :: l) := by simp [endL]
    have e2 : quotL q false (34 :: d :: l) = true :: quotL (!q) false (d :: l) := by simp [quotL]
    have e3 : ∀ f fs, refgo cur ((34 : UInt8) :: d :: l) (f :: fs) = refgo (cur ++ [34]) (d :: l) fs := fun f fs => by
     rw [refgo, if_neg (fun x => absurd x.1 (by decide))]
    rw [e, e2, e3, ih (d :: l) (!q) (cur ++ [34]) (by simp; omega)]
    rw [Nat.add_comm 1]
    simp only [List.take_succ_cons, List.drop_succ_cons, List.length_cons, Nat.add_lt_add_iff_right, List.append_assoc, List.singleton_append]
   ·
    by_cases h2 : q = true ∧ c = 92
    ·
     obtain ⟨rfl, rfl⟩ := h2
     have e : endL true (92 :: d :: l) = endL true l + 1 + 1 := by simp [endL]; omega
     have e2 : quotL true false (92 :: d :: l) = true :: true :: quotL true false l := by simp [quotL]
     have e3 : refgo cur ((92 : UInt8) :: d :: l) (true :: true :: quotL true false l) = refgo (cur ++ [92] ++ [d]) l (quotL true false l) := by
      rw [refgo, if_neg (fun x => absurd x.1 (by decide)), refgo, if_neg (by simp)]
     rw [e, e2, e3, ih l true (cur ++ [92] ++ [d]) (by omega)]
     rw [List.take_succ_cons, List.take_succ_cons, List.drop_succ_cons, List.drop_succ_cons, List.length_cons, List.length_cons]
     simp only [Nat.add_lt_add_iff_right, List.append_assoc, List.singleton_append, List.cons_append, List.nil_append]
    ·
     by_cases h3 : q = false ∧ c = 44
     ·
      obtain ⟨rfl, rfl⟩ := h3
      simp [refgo, endL, quotL]
     ·
      have e : endL q (c :: d :: l) = 1 + endL q (d :: l) := by rw [endL, if_neg h1, if_neg h2, if_neg h3]
      have e2 : quotL q false (c :: d :: l) = (q || c == 34) :: quotL q false (d :: l) := by
       rw [quotL, if_neg (by simp), if_neg h2, if_neg h1]
      have e3 : ∀ fs, refgo cur (c :: d :: l) ((q || c == 34) :: fs) = refgo (cur ++ [c]) (d :: l) fs := fun fs => by
       rw [refgo, if_neg (fun x => h3 ⟨by cases q <;> simp_all, x.1⟩)]
      rw [e, e2, e3, ih (d :: l) q (cur ++ [c]) (by simp; omega)]
      rw [Nat.add_comm 1]
      simp only [List.take_succ_cons, List.drop_succ_cons, List.length_cons, Nat.add_lt_add_iff_right, List.append_assoc, List.singleton_append]
theorem listL_ref : ∀ (n : Nat) (l : List UInt8), l.length ≤ n → listL (n + 1) l = refgo [] l (quotL false false l) := by
 intro n
 induction n with
 | zero =>
  intro l h
  obtain rfl := List.eq_nil_of_length_eq_zero (by omega : l.length = 0)
  rfl
 | succ n ih =>
  intro l h
  rw [listL, refgo_end (n + 1) l false [] h]
  by_cases hl : l = []
  ·
   subst hl
   rfl
  ·
   rw [if_neg hl, List.nil_append]
   have hpos : 0 < l.length := List.length_pos_iff.2 hl
   have hd : (l.drop (endL false l + 1)).length ≤ n := by rw [List.length_drop]; omega
   rw [ih _ hd]
   congr 1
   by_cases hc : endL false l < l.length
   ·
    rw [if_pos hc]
   ·
    rw [if_neg hc, List.drop_of_length_le (by omega)]
    rfl
theorem rlist_eval (s : ByteArray) (hs : s.size ≤ 1000000) (k : Nat) (hk : 4000100 < k) : pantryref01_List.f k s = some ((listL (s.size + 1) s.data.toList).map toB) := by
 unfold pantryref01_List.f
 rw [quoted_eval s (by omega) k (by omega)]
 simp only [Option.bind_some]
 have hz := size_l s
 have := rlist_l0 s (by omega) (quotL false false s.data.toList) (by rw [quotL_len]; omega) s.size 0 0 [] k (by omega) (by omega) (by simp) (by omega)
 rw [show ((0 : Nat) : Int) = 0 from rfl] at this
 rw [this, listL_ref _ _ (by omega)]
 simp

theorem SmallF_take {l : List S46} (h : SmallF l) (i : Nat) : SmallF (l.take i) := ⟨by rw [List.length_take]; have := h.1; omega, fun f hf => h.2 f (List.mem_of_mem_take hf)⟩
theorem rget_l0 (n : ByteArray) (hn : n.size ≤ 1000) (l : List S46) (h : SmallF l) : ∀ (d i k : Nat), i + d = l.length → d + 1001 < k →
  pantryref03_Get.l0 k (l.map conv) n (getB n (l.take i)) ((allV n (l.take i)).length : Int) (i : Int) = some (getB n l, ((allV n l).length : Int)) := by
 intro d
 induction d with
 | zero =>
  intro i k hi hk
  obtain ⟨k, rfl⟩ : ∃ j, k = j + 1 := ⟨k - 1, by omega⟩
  simp only [pantryref03_Get.l0]
  rw [if_neg (by rw [List.length_map]; omega), List.take_of_length_le (by omega)]
 | succ d ih =>
  intro i k hi hk
  obtain ⟨k, rfl⟩ : ∃ j, k = j + 1 := ⟨k - 1, by omega⟩
  have hlt : i < l.length := by omega
  have hll := h.1
  have hx := h.2 _ (List.getElem_mem hlt)
  have hgs := getB_size n _ (SmallF_take h i)
  have hal : (allV n (l.take i)).length ≤ i := by
   unfold allV
   rw [List.length_map]
   refine Nat.le_trans (List.length_filter_le _ _) ?_
   rw [List.length_take]
   omega
  simp only [pantryref03_Get.l0]
  rw [if_pos (by rw [List.length_map]; omega), if_pos (by omega), rd36 _ i (by rw [List.length_map]; omega), List.getElem_map]
  rw [is_eval _ _ n (by simp only [conv]; omega) (by omega) k (by simp only [conv]; omega) (by omega), w64n (x := (i : Int) + 1) (by omega) (by omega), w64n (x := ((allV n (l.take i)).length : Int) + 1) (by omega) (by omega)]
  simp only [Option.bind_some, conv]
  have := ih (i + 1) k (by omega) (by omega)
  rw [show ((i + 1 : Nat) : Int) = (i : Int) + 1 by omega, List.take_succ_eq_append_getElem hlt, allV_app] at this
  cases hs : sameB n l[i].f0 with
  | false =>
   have e : allV n [l[i]] = [] := by
    unfold allV
    rw [List.filter_cons_of_neg (by simp [isOf, hs])]
    rfl
   have e2 : getB n (l.take i ++ [l[i]]) = getB n (l.take i) := by
    unfold getB
    rw [allV_app, e, List.append_nil]
   rw [e, List.append_nil, e2] at this
   rw [if_neg (by simp)]
   exact this
  | true =>
   have e : allV n [l[i]] = [l[i].f1] := by
    unfold allV
    rw [List.filter_cons_of_pos (by simp [isOf, hs])]
    rfl
   rw [e, List.length_append, List.length_singleton, show (((allV n (l.take i)).length + 1 : Nat) : Int) = ((allV n (l.take i)).length : Int) + 1 by omega] at this
   have s2 : (⟨#[44, 32]⟩ : ByteArray).size = 2 := rfl
   have one : joinB [l[i].f1] commaB = l[i].f1.data.toList := by simp [joinB, Lib.join, List.intercalate]
   rw [if_pos rfl]
   by_cases hc : ((allV n (l.take i)).length : Int) > 0
   ·
    rw [if_pos hc, if_pos (by omega)]
    refine (if_pos (by rw [ByteArray.size_append]; omega)).trans ?_
    have e2 : getB n (l.take i ++ [l[i]]) = getB n (l.take i) ++ ⟨#[44, 32]⟩ ++ l[i].f1 := by
     have : (getB n (l.take i ++ [l[i]])).data.toList = (getB n (l.take i) ++ ⟨#[44, 32]⟩ ++ l[i].f1).data.toList := by
      rw [← ByteArray.toList_eq, getB_list, allV_app, e, joinB_app _ _ (by intro h; rw [h] at hc; simp at hc) (by simp), one]
      have r0 := getB_list n (l.take i)
      rw [ByteArray.toList_eq] at r0
      rw [← r0]
      simp
     rw [← of_list (getB n (l.take i ++ [l[i]])), this, of_list]
    rw [e2] at this
    exact this
   ·
    rw [if_neg hc]
    refine (if_pos (by omega)).trans ?_
    have h0 : allV n (l.take i) = [] := List.eq_nil_of_length_eq_zero (by omega)
    have g0 : getB n (l.take i) = ⟨#[]⟩ := by
     unfold getB
     rw [h0]
     rfl
    have e2 : getB n (l.take i ++ [l[i]]) = getB n (l.take i) ++ l[i].f1 := by
     have : (getB n (l.take i ++ [l[i]])).data.toList = (getB n (l.take i) ++ l[i].f1).data.toList := by
      rw [← ByteArray.toList_eq, getB_list, allV_app, e, h0, List.nil_append, one, g0]
      simp
     rw [← of_list (getB n (l.take i ++ [l[i]])), this, of_list]
    rw [e2] at this
    exact this
theorem rget_eval (n : ByteArray) (l : List S46) (hn : n.size ≤ 1000) (h : SmallF l) (k : Nat) (hk : 2000 < k) : pantryref03_Get.f k (l.map conv) n = some (getB n l, ((allV n l).length : Int)) := by
 unfold pantryref03_Get.f
 exact rget_l0 n hn l h l.length 0 k (by omega) (by have := h.1; omega)
theorem relems_eval (n : ByteArray) (l : List S46) (hn : n.size ≤ 1000) (h : SmallF l) (k : Nat) (hk : 4000100 < k) : pantryref03_Elements.f k (l.map conv) n = some (elemsB n l) := by
 unfold pantryref03_Elements.f
 rw [rget_eval n l hn h k (by omega)]
 simp only [Option.bind_some]
 have := getB_size n l h
 rw [rlist_eval _ (by omega) k hk]
 rfl

/-! ## What is right -/
def marksB : List UInt8 := [33, 35, 36, 37, 38, 39, 42, 43, 45, 46, 94, 95, 124, 126, 96]
def tokC (c : UInt8) : Bool := pantryref01_Sign.f (c.toNat : Int) == some true
theorem tok_fin : ∀ c : Fin 256, (pantryref01_Sign.f (c.val : Int)).isSome = true ∧ (sign_letter.f (c.val : Int)).isSome = true ∧ (pantryref01_Sign.f (c.val : Int) == some true) = ((sign_letter.f (c.val : Int) == some true) || !(decide (Lib.indexByte marksB (c.val : Int).toNat.toUInt8 < 0))) := by decide +kernel
theorem tok_u8 (c : UInt8) : pantryref01_Sign.f (c.toNat : Int) = some (tokC c) ∧ (∃ b, sign_letter.f (c.toNat : Int) = some b ∧ tokC c = (b || !(decide (Lib.indexByte marksB (c.toNat : Int).toNat.toUInt8 < 0)))) := by
 obtain ⟨h1, h2, h3⟩ := tok_fin ⟨c.toNat, c.toNat_lt⟩
 simp only at h1 h2 h3
 obtain ⟨a, ha⟩ := Option.isSome_iff_exists.1 h1
 obtain ⟨b, hb⟩ := Option.isSome_iff_exists.1 h2
 have e : ∀ x : Bool, (some x == some true) = x := fun x => by cases x <;> rfl
 unfold tokC
 rw [ha, hb, e, e] at h3
 rw [ha, e]
 exact ⟨rfl, b, hb, h3⟩
def tokV (s : ByteArray) : Bool := s.data.toList.all tokC && decide (0 < s.size)
theorem ne_nil_iff (s : ByteArray) : (s.toList != []) = decide (0 < s.size) := by
 rw [ByteArray.toList_eq, size_l]
 cases s.data.toList <;> simp
theorem token_l0 (s : ByteArray) (hs : s.size ≤ 1000000000) : ∀ (d i k : Nat), i + d = s.size → d < k → sign_Token.l0 k s (s.size : Int) (i : Int) = some ((s.data.toList.drop i).all tokC && decide (0 < s.size)) := by
 intro d
 induction d with
 | zero =>
  intro i k hi hk
  obtain ⟨k, rfl⟩ : ∃ j, k = j + 1 := ⟨k - 1, by omega⟩
  have hz := size_l s
  simp only [sign_Token.l0]
  rw [if_neg (by omega), List.drop_of_length_le (by omega), ne_nil_iff]
  simp
 | succ d ih =>
  intro i k hi hk
  obtain ⟨k, rfl⟩ : ∃ j, k = j + 1 := ⟨k - 1, by omega⟩
  have hz := size_l s
  have hlt : i < s.data.toList.length := by omega
  obtain ⟨_, b, hb, ht⟩ := tok_u8 s.data.toList[i]
  simp only [sign_Token.l0]
  rw [if_pos (by omega), if_pos (by omega), if_pos (by omega), bt_at2 s i hlt, hb, w64n (by omega) (by omega)]
  simp only [Option.bind_some]
  have := ih (i + 1) k (by omega) (by omega)
  rw [show ((i + 1 : Nat) : Int) = (i : Int) + 1 by omega] at this
  rw [List.drop_eq_getElem_cons hlt, List.all_cons, this]
  cases b with
  | true =>
   rw [if_pos rfl, ht]
   simp
  | false =>
   rw [if_neg (by simp)]
   unfold strings_IndexByte.f
   simp only [Option.bind_some]
   rw [Bool.false_or] at ht
   by_cases hc : Lib.indexByte marksB ((s.data.toList[i]).toNat : Int).toNat.toUInt8 < 0
   ·
    rw [ht, decide_eq_true hc]
    refine (if_pos hc).trans ?_
    simp
   ·
    rw [ht, decide_eq_false hc]
    refine (if_neg hc).trans ?_
    simp
theorem token_eval (s : ByteArray) (hs : s.size ≤ 1000000000) (k : Nat) (hk : s.size < k) : sign_Token.f k s = some (tokV s) := by
 unfold sign_Token.f
 have := token_l0 s hs s.size 0 k (by omega) hk
 exact this
theorem rtoken_l0 (s : ByteArray) (hs : s.size ≤ 1000000000) : ∀ (d i k : Nat), i + d = s.size → d < k → pantryref01_Token.l0 k s (i : Int) = some ((s.data.toList.drop i).all tokC && decide (0 < s.size)) := by
 intro d
 induction d with
 | zero =>
  intro i k hi hk
  obtain ⟨k, rfl⟩ : ∃ j, k = j + 1 := ⟨k - 1, by omega⟩
  have hz := size_l s
  simp only [pantryref01_Token.l0]
  rw [if_neg (by omega), List.drop_of_length_le (by omega), List.all_nil, Bool.true_and]
  congr 1
  rw [decide_eq_decide]
  omega
 | succ d ih =>
  intro i k hi hk
  obtain ⟨k, rfl⟩ : ∃ j, k = j + 1 := ⟨k - 1, by omega⟩
  have hz := size_l s
  have hlt : i < s.data.toList.length := by omega
  simp only [pantryref01_Token.l0]
  rw [if_pos (by omega), if_pos (by omega), bt_at2 s i hlt, (tok_u8 _).1, w64n (by omega) (by omega)]
  simp only [Option.bind_some]
  have := ih (i + 1) k (by omega) (by omega)
  rw [show ((i + 1 : Nat) : Int) = (i : Int) + 1 by omega] at this
  rw [List.drop_eq_getElem_cons hlt, List.all_cons, this]
  cases tokC s.data.toList[i] with
  | true => rw [if_pos rfl]; simp
  | false => rw [if_neg (by simp)]; simp
theorem rtoken_eval (s : ByteArray) (hs : s.size ≤ 1000000000) (k : Nat) (hk : s.size < k) : pantryref01_Token.f k s = some (tokV s) := by
 unfold pantryref01_Token.f
 exact rtoken_l0 s hs s.size 0 k (by omega) hk

theorem rhas_l0 (w : ByteArray) (hw : w.size ≤ 1000) (es : List ByteArray) (he : es.length ≤ 1000000) (hx : ∀ x ∈ es, x.size ≤ 100000) : ∀ (d i k : Nat), i + d = es.length → d + 100001 < k → pantryref03_Has.l0 k w es (i : Int) = some ((es.drop i).any fun e => sameB e w) := by
 intro d
 induction d with
 | zero =>
  intro i k hi hk
  obtain ⟨k, rfl⟩ : ∃ j, k = j + 1 := ⟨k - 1, by omega⟩
  simp only [pantryref03_Has.l0]
  rw [if_neg (by omega), List.drop_of_length_le (by omega)]
  rfl
 | succ d ih =>
  intro i k hi hk
  obtain ⟨k, rfl⟩ : ∃ j, k = j + 1 := ⟨k - 1, by omega⟩
  have hlt : i < es.length := by omega
  have hsz := hx _ (List.getElem_mem hlt)
  have := ih (i + 1) k (by omega) (by omega)
  rw [show ((i + 1 : Nat) : Int) = (i : Int) + 1 by omega] at this
  simp only [pantryref03_Has.l0]
  rw [if_pos (by omega), if_pos (by omega), rdB es i hlt, rlow_eval _ (by omega) k (by omega), rlow_eval w (by omega) k (by omega), w64n (by omega) (by omega), this, List.drop_eq_getElem_cons hlt, List.any_cons]
  simp only [Option.bind_some]
  rw [ByteArray.toList_eq, ByteArray.toList_eq, lowB_list, lowB_list]
  unfold sameB
  by_cases hc : lowL es[i].data.toList = lowL w.data.toList
  ·
   rw [if_pos hc, beq_iff_eq.2 hc]; rfl
  ·
   rw [if_neg hc, beq_eq_false_iff_ne.2 hc, Bool.false_or]
theorem rhas_eval (n w : ByteArray) (l : List S46) (hn : n.size ≤ 1000) (hw : w.size ≤ 1000) (h : SmallF l) (k : Nat) (hk : 4000100 < k) : pantryref03_Has.f k (l.map conv) n w = some ((elemsB n l).any fun e => sameB e w) := by
 unfold pantryref03_Has.f
 rw [relems_eval n l hn h k hk]
 simp only [Option.bind_some]
 obtain ⟨e1, e2⟩ := elems_ok n l h
 have := rhas_l0 w hw (elemsB n l) (by omega) (fun x hx => by have := e2 x hx; omega) (elemsB n l).length 0 k (by omega) (by omega)
 simpa using this

/-! ## Quoted texts and numbers -/
def unqP : List UInt8 → Option (List UInt8)
 | [] => none
 | [c] => if c = 34 then some [] else none
 | c :: d :: l => if c = 34 then none else if c = 92 then (unqP l).map (d :: ·) else (unqP (d :: l)).map (c :: ·)
def unqR : List UInt8 → Option (List UInt8)
 | [] => some []
 | [c] => if c = 34 then none else if c = 92 then none else some [c]
 | c :: d :: l => if c = 34 then none else if c = 92 then (unqR l).map (d :: ·) else (unqR (d :: l)).map (c :: ·)
def numsOf (l : List UInt8) : List Int := l.map fun c => (c.toNat : Int)
def resU (acc : List Int) : Option (List UInt8) → ByteArray × Bool
 | none => (⟨#[]⟩, false)
 | some r => (strOfNums (acc ++ numsOf r), true)
theorem resU_cons (acc : List Int) (c : UInt8) (o : Option (List UInt8)) : resU acc (o.map (c :: ·)) = resU (acc ++ [(c.toNat : Int)]) o := by
 cases o with
 | none => rfl
 | some r => simp [resU, numsOf]
theorem unqP_last : ∀ (n : Nat) (l : List UInt8), l.length ≤ n → ∀ x : UInt8, unqP (l ++ [x]) = if x = 34 then unqR l else none := by
 intro n
 induction n with
 | zero =>
  intro l h x
  obtain rfl := List.eq_nil_of_length_eq_zero (by omega : l.length = 0)
  simp [unqP, unqR]
 | succ n ih =>
  intro l h x
  match l, h with
  | [], _ => simp [unqP, unqR]
  | [c], _ =>
   have e : [c] ++ [x] = [c, x] := rfl
   rw [e, unqP, unqR]
   by_cases h1 : c = 34
   ·
    rw [if_pos h1, if_pos h1]; split <;> rfl
   ·
    rw [if_neg h1, if_neg h1]
    by_cases h2 : c = 92
    ·
     rw [if_pos h2, if_pos h2]; simp [unqP]
    ·
     rw [if_neg h2, if_neg h2, unqP]
     by_cases h3 : x = 34
     ·
      rw [if_pos h3, if_pos h3]; rfl
     ·
      rw [if_neg h3, if_neg h3]; rfl
  | c :: d :: l, h =>
   simp only [List.length_cons] at h
   have i1 := ih l (by omega) x
   have i2 := ih (d :: l) (by simp; omega) x
   rw [List.cons_append, List.cons_append, unqP, unqR]
   rw [List.cons_append] at i2
   by_cases h1 : c = 34
   ·
    rw [if_pos h1, if_pos h1]; split <;> rfl
   ·
    rw [if_neg h1, if_neg h1]
    by_cases h2 : c = 92
    ·
     rw [if_pos h2, if_pos h2, i1]; split <;> rfl
    ·
     rw [if_neg h2, if_neg h2, i2]; split <;> rfl
theorem unqP_len : ∀ (n : Nat) (l : List UInt8), l.length ≤ n → ∀ r, unqP l = some r → r.length ≤ l.length := by
 intro n
 induction n with
 | zero =>
  intro l h r hr
  obtain rfl := List.eq_nil_of_length_eq_zero (by omega : l.length = 0)
  cases hr
 | succ n ih =>
  intro l h r hr
  match l, h with
  | [], _ => cases hr
  | [c], _ =>
   rw [unqP] at hr
   split at hr
   ·
    obtain rfl := Option.some.inj hr; simp
   ·
    cases hr
  | c :: d :: l, h =>
   simp only [List.length_cons] at h
   rw [unqP] at hr
   split at hr
   ·
    cases hr
   ·
    split at hr
    ·
     obtain ⟨r', hr', rfl⟩ := Option.map_eq_some_iff.1 hr
     have := ih l (by omega) r' hr'
     simp only [List.length_cons]
     omega
    ·
     obtain ⟨r', hr', rfl⟩ := Option.map_eq_some_iff.1 hr
     have := ih (d :: l) (by simp; omega) r' hr'
     simp only [List.length_cons] at this ⊢
     omega
theorem unq_l0 (s : ByteArray) (hs : s.size ≤ 1000000) : ∀ (d i k : Nat) (acc : List Int), i + d = s.size → 1 ≤ i → acc.length ≤ i → d < k → sign_Unquote.l0 k s acc (i : Int) = some (resU acc (unqP (s.data.toList.drop i))) := by
 have hz := size_l s
 intro d
 induction d using Nat.strongRecOn with
 | _ d ih =>
  intro i k acc hi h1 ha hk
  obtain ⟨k, rfl⟩ : ∃ j, k = j + 1 := ⟨k - 1, by omega⟩
  simp only [sign_Unquote.l0]
  cases d with
  | zero =>
   rw [if_neg (by omega), List.drop_of_length_le (by omega)]
   rfl
  | succ d =>
   have hlt : i < s.data.toList.length := by omega
   have e34 : ((s.data.toList[i]).toNat : Int) = 34 ↔ s.data.toList[i] = 34 := u8_eq _ 34
   have e92 : ((s.data.toList[i]).toNat : Int) = 92 ↔ s.data.toList[i] = 92 := u8_eq _ 92
   rw [if_pos (by omega), if_pos (by omega), bt_at2 s i hlt, w64n (x := (s.size : Int) - 1) (by omega) (by omega), w64n (x := (i : Int) + 1) (by omega) (by omega)]
   have n1 : ∀ acc' : List Int, acc'.length ≤ i + 1 → sign_Unquote.l0 k s acc' ((i : Int) + 1) = some (resU acc' (unqP (s.data.toList.drop (i + 1)))) := fun acc' h => by
    have := ih d (by omega) (i + 1) k acc' (by omega) (by omega) h (by omega)
    rwa [show ((i + 1 : Nat) : Int) = (i : Int) + 1 by omega] at this
   by_cases c1 : s.data.toList[i] = 34
   ·
    rw [if_pos (e34.2 c1)]
    rcases Nat.eq_zero_or_pos d with hd | hd
    ·
     rw [if_neg (by omega), List.drop_eq_getElem_cons hlt, List.drop_of_length_le (i := i + 1) (by omega), unqP, if_pos c1]
     simp [resU, numsOf]
    ·
     have hlt2 : i + 1 < s.data.toList.length := by omega
     rw [if_pos (by omega), List.drop_eq_getElem_cons hlt, List.drop_eq_getElem_cons hlt2, unqP, if_pos c1]
     rfl
   ·
    rw [if_neg (fun x => c1 (e34.1 x))]
    by_cases c2 : s.data.toList[i] = 92
    ·
     rw [if_pos (e92.2 c2)]
     rcases Nat.eq_zero_or_pos d with hd | hd
     ·
      rw [if_pos (by omega), List.drop_eq_getElem_cons hlt, List.drop_of_length_le (i := i + 1) (by omega), unqP, if_neg c1]
      rfl
     ·
      have hlt2 : i + 1 < s.data.toList.length := by omega
      have hb := bt_at2 s (i + 1) hlt2
      rw [show ((i + 1 : Nat) : Int) = (i : Int) + 1 by omega] at hb
      have := ih (d - 1) (by omega) (i + 2) k (acc ++ [((s.data.toList[i + 1]).toNat : Int)]) (by omega) (by omega) (by simp; omega) (by omega)
      rw [show ((i + 2 : Nat) : Int) = (i : Int) + 1 + 1 by omega] at this
      rw [if_neg (by omega), if_pos (by omega), if_pos (by omega), if_pos (by omega), hb, w64n (by omega) (by omega), this, List.drop_eq_getElem_cons hlt, List.drop_eq_getElem_cons hlt2, unqP, if_neg c1, if_pos c2, resU_cons]
    ·
     rw [if_neg (fun x => c2 (e92.1 x)), if_pos (by omega), n1 _ (by simp; omega), List.drop_eq_getElem_cons hlt]
     rcases Nat.eq_zero_or_pos d with hd | hd
     ·
      have e : unqP [s.data.toList[i]] = none := by rw [unqP, if_neg c1]
      rw [List.drop_of_length_le (i := i + 1) (by omega), e]
      rfl
     ·
      have hlt2 : i + 1 < s.data.toList.length := by omega
      rw [List.drop_eq_getElem_cons hlt2, unqP, if_neg c1, if_neg c2, resU_cons]
theorem runq_l0 (s : ByteArray) (hs : s.size ≤ 1000000) : ∀ (d i k : Nat) (acc : List Int), i + d = s.size → acc.length ≤ i → d < k → pantryref01_Unquote.l0 k acc s (i : Int) = some (resU acc (unqR (s.data.toList.drop i))) := by
 have hz := size_l s
 intro d
 induction d using Nat.strongRecOn with
 | _ d ih =>
  intro i k acc hi ha hk
  obtain ⟨k, rfl⟩ : ∃ j, k = j + 1 := ⟨k - 1, by omega⟩
  simp only [pantryref01_Unquote.l0]
  cases d with
  | zero =>
   rw [if_neg (by omega), List.drop_of_length_le (by omega)]
   simp [resU, unqR, numsOf]
  | succ d =>
   have hlt : i < s.data.toList.length := by omega
   have e34 : ((s.data.toList[i]).toNat : Int) = 34 ↔ s.data.toList[i] = 34 := u8_eq _ 34
   have e92 : ((s.data.toList[i]).toNat : Int) = 92 ↔ s.data.toList[i] = 92 := u8_eq _ 92
   rw [if_pos (by omega), if_pos (by omega), bt_at2 s i hlt, w64n (x := (i : Int) + 1) (by omega) (by omega)]
   have n1 : ∀ acc' : List Int, acc'.length ≤ i + 1 → pantryref01_Unquote.l0 k acc' s ((i : Int) + 1) = some (resU acc' (unqR (s.data.toList.drop (i + 1)))) := fun acc' h => by
    have := ih d (by omega) (i + 1) k acc' (by omega) h (by omega)
    rwa [show ((i + 1 : Nat) : Int) = (i : Int) + 1 by omega] at this
   by_cases c1 : s.data.toList[i] = 34
   ·
    rw [if_pos (e34.2 c1), List.drop_eq_getElem_cons hlt]
    cases s.data.toList.drop (i + 1) <;> rw [unqR, if_pos c1] <;> rfl
   ·
    rw [if_neg (fun x => c1 (e34.1 x))]
    by_cases c2 : s.data.toList[i] = 92
    ·
     rw [if_pos (e92.2 c2)]
     rcases Nat.eq_zero_or_pos d with hd | hd
     ·
      rw [if_pos (by omega), List.drop_eq_getElem_cons hlt, List.drop_of_length_le (i := i + 1) (by omega), unqR, if_neg c1, if_pos c2]
      rfl
     ·
      have hlt2 : i + 1 < s.data.toList.length := by omega
      have hb := bt_at2 s (i + 1) hlt2
      rw [show ((i + 1 : Nat) : Int) = (i : Int) + 1 by omega] at hb
      have := ih (d - 1) (by omega) (i + 2) k (acc ++ [((s.data.toList[i + 1]).toNat : Int)]) (by omega) (by simp; omega) (by omega)
      rw [show ((i + 2 : Nat) : Int) = (i : Int) + 1 + 1 by omega] at this
      rw [if_neg (by omega), if_pos (by omega), if_pos (by omega), if_pos (by omega), hb, w64n (by omega) (by omega), this, List.drop_eq_getElem_cons hlt, List.drop_eq_getElem_cons hlt2, unqR, if_neg c1, if_pos c2, resU_cons]
    ·
     rw [if_neg (fun x => c2 (e92.1 x)), if_pos (by omega), n1 _ (by simp; omega), List.drop_eq_getElem_cons hlt]
     rcases Nat.eq_zero_or_pos d with hd | hd
     ·
      have e : unqR [s.data.toList[i]] = some [s.data.toList[i]] := by rw [unqR, if_neg c1, if_neg c2]
      rw [List.drop_of_length_le (i := i + 1) (by omega), e]
      simp [resU, unqR, numsOf]
     ·
      have hlt2 : i + 1 < s.data.toList.length := by omega
      rw [List.drop_eq_getElem_cons hlt2, unqR, if_neg c1, if_neg c2, resU_cons]
def unqV (s : ByteArray) : ByteArray × Bool := if tokV s = true then (s, true) else if s.size < 2 then (⟨#[]⟩, false) else if bt s 0 = 34 then resU [] (unqP (s.data.toList.drop 1)) else (⟨#[]⟩, false)
theorem unq_eval (s : ByteArray) (hs : s.size ≤ 1000000) (k : Nat) (hk : 2000000 < k) : sign_Unquote.f k s = some (unqV s) := by
 unfold sign_Unquote.f unqV
 obtain ⟨k, rfl⟩ : ∃ j, k = j + 1 := ⟨k - 1, by omega⟩
 rw [token_eval s (by omega) _ (by omega)]
 simp only [Option.bind_some]
 have jt : sign_Unquote.j0 (k + 1) s true = some (⟨#[]⟩, false) := by simp [sign_Unquote.j0]
 cases tokV s with
 | true => rw [if_pos rfl, if_pos rfl]
 | false =>
  rw [if_neg (show ¬ (false = true) by simp), if_neg (show ¬ (false = true) by simp)]
  by_cases h2 : s.size < 2
  ·
   rw [if_pos (by omega), if_pos h2, jt]
  ·
   rw [if_neg (by omega), if_neg h2, if_pos (by omega)]
   by_cases h3 : bt s 0 = 34
   ·
    rw [if_pos h3, h3]
    simp only [sign_Unquote.j0]
    rw [if_neg (by simp)]
    have := unq_l0 s hs (s.size - 1) 1 k [] (by omega) (by omega) (by simp) (by omega)
    exact this
   ·
    rw [if_neg h3, bne_iff_ne.2 h3, jt]
theorem runq_eval (s : ByteArray) (hs : s.size ≤ 1000000) (k : Nat) (hk : 2000000 < k) : pantryref01_Unquote.f k s = some (unqV s) := by
 unfold pantryref01_Unquote.f unqV
 obtain ⟨k, rfl⟩ : ∃ j, k = j + 1 := ⟨k - 1, by omega⟩
 have hz := size_l s
 rw [rtoken_eval s (by omega) _ (by omega)]
 simp only [Option.bind_some]
 have jt : pantryref01_Unquote.j0 (k + 1) s true = some (⟨#[]⟩, false) := by simp [pantryref01_Unquote.j0]
 cases tokV s with
 | true => rw [if_pos rfl, if_pos rfl]
 | false =>
  rw [if_neg (show ¬ (false = true) by simp), if_neg (show ¬ (false = true) by simp)]
  by_cases h2 : s.size < 2
  ·
   rw [if_pos (by omega), if_pos h2, jt]
  ·
   rw [if_neg (by omega), if_neg h2, if_pos (by omega)]
   by_cases h3 : bt s 0 = 34
   ·
    rw [if_pos h3, if_pos h3, w64n (by omega) (by omega), if_pos (by omega), if_pos (by omega)]
    have hlt : s.size - 1 < s.data.toList.length := by omega
    have hb := bt_at2 s (s.size - 1) hlt
    rw [show ((s.size - 1 : Nat) : Int) = (s.size : Int) - 1 by omega] at hb
    have hin : s.data.toList.drop 1 = ((s.data.toList.drop 1).take (s.size - 2)) ++ [s.data.toList[s.size - 1]] := by
     have := sub_snoc s.data.toList 1 (s.size - 1) (by omega) hlt
     rw [show s.size - 1 + 1 - 1 = s.size - 1 by omega, show s.size - 1 - 1 = s.size - 2 by omega] at this
     rw [← this, List.take_of_length_le (by rw [List.length_drop]; omega)]
    have hP := unqP_last _ ((s.data.toList.drop 1).take (s.size - 2)) (Nat.le_refl _) s.data.toList[s.size - 1]
    rw [← hin] at hP
    rw [hP, hb]
    have e34 : ((s.data.toList[s.size - 1]).toNat : Int) = 34 ↔ s.data.toList[s.size - 1] = 34 := u8_eq _ 34
    by_cases h4 : s.data.toList[s.size - 1] = 34
    ·
     rw [if_pos h4, e34.2 h4]
     simp only [pantryref01_Unquote.j0]
     rw [if_neg (by simp), w64n (by omega) (by omega), if_pos (by omega), if_pos (by omega)]
     have hsz : (s.extract 1 ((s.size : Int) - 1).toNat).size = s.size - 2 := by rw [ByteArray.size_extract]; omega
     have := runq_l0 (s.extract 1 ((s.size : Int) - 1).toNat) (by omega) (s.size - 2) 0 k [] (by omega) (by simp) (by omega)
     rw [List.drop_zero, ext_l, show ((s.size : Int) - 1).toNat - 1 = s.size - 2 by omega] at this
     exact this
    ·
     rw [if_neg h4, bne_iff_ne.2 (fun x => h4 (e34.1 x)), jt]
     rfl
   ·
    rw [if_neg h3, if_neg h3, jt]
theorem unqV_size (s : ByteArray) : (unqV s).1.size ≤ s.size := by
 unfold unqV
 split
 ·
  exact Nat.le_refl _
 ·
  split
  ·
   exact Nat.zero_le _
  ·
   split
   ·
    cases h : unqP (s.data.toList.drop 1) with
    | none => exact Nat.zero_le _
    | some r =>
     have := unqP_len _ _ (Nat.le_refl _) r h
     rw [List.length_drop, ← size_l] at this
     have e : (resU [] (some r)).1.size = r.length := by simp [resU, strOfNums, numsOf, ByteArray.size]
     rw [e]
     omega
   ·
    exact Nat.zero_le _
def numP : Int → List UInt8 → Option Int
 | n, [] => some n
 | n, c :: l => if c.toNat < 48 ∨ c.toNat > 57 then none else numP (mn (10 * n + ((c.toNat : Int) - 48)) 2147483648) l
def numR : Int → List UInt8 → Option Int
 | n, [] => some n
 | n, c :: l => if c.toNat < 48 ∨ c.toNat > 57 then none else numR (if n < 2147483648 then 10 * n + ((c.toNat : Int) - 48) else n) l
theorem num_same : ∀ (l : List UInt8) (n : Int), 0 ≤ n → numP (mn n 2147483648) l = (numR n l).map fun v => mn v 2147483648 := by
 intro l
 induction l with
 | nil => intro n _; rfl
 | cons c l ih =>
  intro n hn
  rw [numP, numR]
  by_cases h : c.toNat < 48 ∨ c.toNat > 57
  ·
   rw [if_pos h, if_pos h]; rfl
  ·
   rw [if_neg h, if_neg h]
   by_cases h2 : n < 2147483648
   ·
    rw [if_pos h2, ← ih _ (by omega)]
    have : mn n 2147483648 = n := by unfold mn; rw [if_neg (by omega)]
    rw [this]
   ·
    rw [if_neg h2, ← ih n hn]
    congr 1
    have e1 : mn n 2147483648 = 2147483648 := by unfold mn; split <;> omega
    rw [e1]
    unfold mn
    rw [if_pos (by omega)]
theorem numP_range : ∀ (l : List UInt8) (n : Int), 0 ≤ n → ∀ v, numP n l = some v → 0 ≤ v := by
 intro l
 induction l with
 | nil => intro n hn v hv; obtain rfl := Option.some.inj hv; exact hn
 | cons c l ih =>
  intro n hn v hv
  rw [numP] at hv
  split at hv
  ·
   cases hv
  ·
   refine ih _ ?_ v hv
   unfold mn
   split <;> omega
def numV (s : ByteArray) : Int × Bool := match numP 0 s.data.toList with
 | none => (0, false)
 | some v => (v, decide (0 < s.size))
theorem num_l0 (s : ByteArray) (hs : s.size ≤ 1000000) : ∀ (d i k : Nat) (n : Int), i + d = s.size → 0 ≤ n → n ≤ 2147483648 → d < k →
  sign_Number.l0 k s n (s.size : Int) (i : Int) = some (match numP n (s.data.toList.drop i) with | none => (0, false) | some v => (v, decide (0 < s.size))) := by
 have hz := size_l s
 intro d
 induction d with
 | zero =>
  intro i k n hi h0 h1 hk
  obtain ⟨k, rfl⟩ : ∃ j, k = j + 1 := ⟨k - 1, by omega⟩
  simp only [sign_Number.l0]
  rw [if_neg (by omega), List.drop_of_length_le (by omega), ne_nil_iff]
  rfl
 | succ d ih =>
  intro i k n hi h0 h1 hk
  obtain ⟨k, rfl⟩ : ∃ j, k = j + 1 := ⟨k - 1, by omega⟩
  have hlt : i < s.data.toList.length := by omega
  simp only [sign_Number.l0]
  rw [if_pos (by omega), if_pos (by omega), if_pos (by omega), bt_at2 s i hlt, List.drop_eq_getElem_cons hlt, numP]
  by_cases c1 : ((s.data.toList[i]).toNat : Int) < 48
  ·
   rw [if_pos c1, if_pos (by omega)]
  ·
   rw [if_neg c1]
   by_cases c2 : ((s.data.toList[i]).toNat : Int) > 57
   ·
    rw [if_pos c2, if_pos (by omega)]
   ·
    have hm : 0 ≤ mn (10 * n + (((s.data.toList[i]).toNat : Int) - 48)) 2147483648 ∧ mn (10 * n + (((s.data.toList[i]).toNat : Int) - 48)) 2147483648 ≤ 2147483648 := by unfold mn; split <;> omega
    rw [if_neg c2, if_neg (by omega), w64n (x := 10 * n) (by omega) (by omega), show (((s.data.toList[i]).toNat : Int) - 48) % 256 = ((s.data.toList[i]).toNat : Int) - 48 by omega, w64n (x := 10 * n + _) (by omega) (by omega), w64n (by omega) (by omega)]
    have := ih (i + 1) k _ (by omega) hm.1 hm.2 (by omega)
    rwa [show ((i + 1 : Nat) : Int) = (i : Int) + 1 by omega] at this
theorem num_eval (s : ByteArray) (hs : s.size ≤ 1000000) (k : Nat) (hk : 1000000 < k) : sign_Number.f k s = some (numV s) := by
 unfold sign_Number.f
 exact num_l0 s hs s.size 0 k 0 (Nat.zero_add _) (by omega) (by omega) (by omega)
theorem rnum_l0 (s : ByteArray) (hs : s.size ≤ 1000000) : ∀ (d i k : Nat) (n : Int), i + d = s.size → 0 ≤ n → n ≤ 21474836490 → 2 * d < k →
  pantryref01_Number.l0 k s n (i : Int) = some (match numR n (s.data.toList.drop i) with | none => (0, false) | some v => (mn v 2147483648, decide (0 < s.size))) := by
 have hz := size_l s
 intro d
 induction d with
 | zero =>
  intro i k n hi h0 h1 hk
  obtain ⟨k, rfl⟩ : ∃ j, k = j + 1 := ⟨k - 1, by omega⟩
  have ed : decide ((s.size : Int) > 0) = decide (0 < s.size) := by rw [decide_eq_decide]; omega
  simp only [pantryref01_Number.l0]
  rw [if_neg (by omega), List.drop_of_length_le (by omega), ed]
  simp only [numR]
  unfold mn
  by_cases h : n > 2147483648
  ·
   rw [if_pos h, if_pos (by omega)]
  ·
   rw [if_neg h, if_neg (by omega)]
 | succ d ih =>
  intro i k n hi h0 h1 hk
  obtain ⟨k, rfl⟩ : ∃ j, k = j + 1 + 1 := ⟨k - 2, by omega⟩
  have hlt : i < s.data.toList.length := by omega
  have jt : ∀ n i, pantryref01_Number.j1 (k + 1) s n i true = some (0, false) := fun n i => by simp [pantryref01_Number.j1]
  simp only [pantryref01_Number.l0]
  rw [if_pos (by omega), if_pos (by omega), bt_at2 s i hlt, List.drop_eq_getElem_cons hlt, numR]
  by_cases c1 : ((s.data.toList[i]).toNat : Int) < 48
  ·
   rw [if_pos c1, if_pos (by omega), jt]
  ·
   rw [if_neg c1]
   by_cases c2 : ((s.data.toList[i]).toNat : Int) > 57
   ·
    rw [decide_eq_true c2, if_pos (by omega), jt]
   ·
    rw [decide_eq_false c2, if_neg (by omega)]
    simp only [pantryref01_Number.j1]
    have nx : ∀ n', 0 ≤ n' → n' ≤ 21474836490 → pantryref01_Number.l0 k s n' ((i : Int) + 1) = some (match numR n' (s.data.toList.drop (i + 1)) with | none => (0, false) | some v => (mn v 2147483648, decide (0 < s.size))) := fun n' h0 h1 => by
     have := ih (i + 1) k n' (by omega) h0 h1 (by omega)
     rwa [show ((i + 1 : Nat) : Int) = (i : Int) + 1 by omega] at this
    rw [if_neg (by simp), bt_at2 s i hlt, w64n (x := (i : Int) + 1) (by omega) (by omega)]
    by_cases c3 : n < 2147483648
    ·
     rw [if_pos c3, if_pos c3, if_pos (by omega), if_pos (by omega), w64n (x := 10 * n) (by omega) (by omega), show (((s.data.toList[i]).toNat : Int) - 48) % 256 = ((s.data.toList[i]).toNat : Int) - 48 by omega, w64n (by omega) (by omega)]
     exact nx _ (by omega) (by omega)
    ·
     rw [if_neg c3, if_neg c3]
     exact nx _ h0 h1
theorem rnum_eval (s : ByteArray) (hs : s.size ≤ 1000000) (k : Nat) (hk : 2000000 < k) : pantryref01_Number.f k s = some (numV s) := by
 unfold pantryref01_Number.f numV
 have := rnum_l0 s hs s.size 0 k 0 (Nat.zero_add _) (by omega) (by omega) (by omega)
 rw [List.drop_zero] at this
 have e0 : mn 0 2147483648 = 0 := by decide
 have h := num_same s.data.toList 0 (by omega)
 rw [e0] at h
 refine Eq.trans this ?_
 rw [h]
 cases numR 0 s.data.toList <;> rfl
def secV (arg : ByteArray) (other : Int) : Int := if (unqV arg).2 = true then (if (numV (unqV arg).1).2 = true then (numV (unqV arg).1).1 else other) else other
theorem sec_eval (arg : ByteArray) (h : arg.size ≤ 1000000) (other : Int) (k : Nat) (hk : 2000000 < k) : control_seconds.f k arg other = some (secV arg other) := by
 have hz := unqV_size arg
 unfold control_seconds.f secV
 rw [unq_eval arg h k hk]
 simp only [Option.bind_some]
 rw [num_eval _ (by omega) k (by omega)]
 simp only [Option.bind_some]
 split
 ·
  split <;> rfl
 ·
  rfl
theorem rsec_eval (arg : ByteArray) (h : arg.size ≤ 1000000) (other : Int) (k : Nat) (hk : 2000000 < k) : pantryref04_seconds.f k arg other = some (secV arg other) := by
 have hz := unqV_size arg
 unfold pantryref04_seconds.f secV
 rw [runq_eval arg h k hk]
 simp only [Option.bind_some]
 rw [rnum_eval _ (by omega) k hk]
 simp only [Option.bind_some]
 split
 ·
  split <;> rfl
 ·
  rfl
theorem sec_range (arg : ByteArray) (other : Int) (ho : 0 ≤ other) : 0 ≤ secV arg other := by
 unfold secV
 split
 ·
  split
  ·
   unfold numV
   cases h : numP 0 (unqV arg).1.data.toList with
   | none => exact Int.le_refl _
   | some v => exact numP_range _ 0 (Int.le_refl _) v h
  ·
   exact ho
 ·
  exact ho
theorem sec_none (other : Int) : secV ⟨#[]⟩ other = other := rfl

theorem cut_size (e : ByteArray) (M : Nat) (h : e.size ≤ M) : (cutA e).size ≤ M ∧ (cutB e).size ≤ M := by
 unfold cutA cutB
 constructor
 ·
  split
  ·
   rw [ByteArray.size_extract]; omega
  ·
   exact h
 ·
  split
  ·
   rw [ByteArray.size_extract]; omega
  ·
   exact Nat.zero_le _
theorem cut_none (e : ByteArray) (h : cutH e = false) : cutB e = ⟨#[]⟩ := by
 unfold cutH at h
 unfold cutB
 rw [if_neg (of_decide_eq_false h)]
theorem idx_drop (s : ByteArray) (hs : s.size ≤ 1000000) : ∀ (d i k : Nat), i + d = s.size → d < k → (∀ j (h : j < s.data.toList.length), j < i → s.data.toList[j] ≠ 61) → pantryref04_cut.l0 k s (i : Int) = some (cutA s, cutB s, cutH s) := by
 have hz := size_l s
 have hI : ∀ (l : List UInt8) (i : Nat), (∀ j (h : j < l.length), j < i → l[j] ≠ 61) → (h : i < l.length) → l[i] = 61 → Lib.indexByte l 61 = (i : Int) := by
  intro l
  induction l with
  | nil => intro i _ h; simp at h
  | cons b l ih =>
   intro i hn h he
   cases i with
   | zero =>
    have hb : b = 61 := by simpa using he
    unfold Lib.indexByte
    rw [if_pos (by simpa using hb)]
    rfl
   | succ i =>
    have hb : b ≠ 61 := hn 0 (by simp) (by omega)
    have := ih i (fun j h hj => by have := hn (j + 1) (by simpa using h) (by omega); simpa using this) (by simpa using h) (by simpa using he)
    unfold Lib.indexByte
    rw [if_neg (by simpa using hb), this]
    have h2 : ((i : Int) == -1) = false := beq_eq_false_iff_ne.2 (by omega)
    rw [h2, if_neg (by simp)]
    omega
 have hN : ∀ (l : List UInt8), (∀ j (h : j < l.length), l[j] ≠ 61) → Lib.indexByte l 61 = -1 := by
  intro l
  induction l with
  | nil => intro _; rfl
  | cons b l ih =>
   intro hn
   have hb : b ≠ 61 := hn 0 (by simp)
   have := ih (fun j h => by have := hn (j + 1) (by simpa using h); simpa using this)
   unfold Lib.indexByte
   rw [if_neg (by simpa using hb), this]
   rfl
 intro d
 induction d with
 | zero =>
  intro i k hi hk hn
  obtain ⟨k, rfl⟩ : ∃ j, k = j + 1 := ⟨k - 1, by omega⟩
  simp only [pantryref04_cut.l0]
  rw [if_neg (by omega)]
  have e : cutI s = -1 := hN _ (fun j h => hn j h (by omega))
  unfold cutA cutB cutH
  rw [e]
  rfl
 | succ d ih =>
  intro i k hi hk hn
  obtain ⟨k, rfl⟩ : ∃ j, k = j + 1 := ⟨k - 1, by omega⟩
  have hlt : i < s.data.toList.length := by omega
  have e61 : ((s.data.toList[i]).toNat : Int) = 61 ↔ s.data.toList[i] = 61 := u8_eq _ 61
  simp only [pantryref04_cut.l0]
  rw [if_pos (by omega), if_pos (by omega), bt_at2 s i hlt, w64n (by omega) (by omega)]
  by_cases h : s.data.toList[i] = 61
  ·
   have e : cutI s = (i : Int) := hI _ i hn hlt h
   rw [if_pos (e61.2 h), if_pos (by omega), if_pos (by omega), if_pos (by omega)]
   unfold cutA cutB cutH
   rw [e, if_pos (by omega), if_pos (by omega), decide_eq_true (by omega)]
  ·
   rw [if_neg (fun x => h (e61.1 x))]
   have := ih (i + 1) k (by omega) (by omega) (fun j hj hlt2 => by
    rcases Nat.lt_or_ge j i with h2 | h2
    ·
     exact hn j hj h2
    ·
     obtain rfl : j = i := by omega
     exact h)
   rwa [show ((i + 1 : Nat) : Int) = (i : Int) + 1 by omega] at this
theorem cut_eval (s : ByteArray) (hs : s.size ≤ 1000000) (k : Nat) (hk : 1000000 < k) : pantryref04_cut.f k s = some (cutA s, cutB s, cutH s) := by
 unfold pantryref04_cut.f
 exact idx_drop s hs s.size 0 k (Nat.zero_add _) (by omega) (fun j _ h => by omega)
def nmIs (e : ByteArray) (nm : List UInt8) : Bool := (lowB (cutA e)).toList == nm
def saidV (es : List ByteArray) (nm : List UInt8) : Bool := es.any fun e => nmIs e nm
def secE (e : ByteArray) (other bare : Int) : Int := if cutH e = true then secV (cutB e) other else bare
def stepL (most : Bool) (o s : Int) : Int := if o < 0 ∨ (most = true ∧ s > o) ∨ (most = false ∧ s < o) then s else o
def toldV (nm : List UInt8) (other bare : Int) (most : Bool) : Int → List ByteArray → Int
 | o, [] => o
 | o, e :: l => toldV nm other bare most (if nmIs e nm = true then stepL most o (secE e other bare) else o) l
theorem rsd_l0 (es : List ByteArray) (nm : ByteArray) (hl : es.length ≤ 1000000) (hs : ∀ e ∈ es, e.size ≤ 80000) : ∀ (d i k : Nat), i + d = es.length → d + 2000000 < k → pantryref04_said.l0 k es nm (i : Int) = some (saidV (es.drop i) nm.toList) := by
 intro d
 induction d with
 | zero =>
  intro i k hi hk
  obtain ⟨k, rfl⟩ : ∃ j, k = j + 1 := ⟨k - 1, by omega⟩
  simp only [pantryref04_said.l0]
  rw [if_neg (by omega), List.drop_of_length_le (by omega)]
  rfl
 | succ d ih =>
  intro i k hi hk
  obtain ⟨k, rfl⟩ : ∃ j, k = j + 1 := ⟨k - 1, by omega⟩
  have hlt : i < es.length := by omega
  have hsz := hs _ (List.getElem_mem hlt)
  have hc := cut_size es[i] 80000 hsz
  have := ih (i + 1) k (by omega) (by omega)
  rw [show ((i + 1 : Nat) : Int) = (i : Int) + 1 by omega] at this
  simp only [pantryref04_said.l0]
  rw [if_pos (by omega), if_pos (by omega), rdB es i hlt, cut_eval _ (by omega) k (by omega)]
  simp only [Option.bind_some]
  rw [rlow_eval _ (by omega) k (by omega), w64n (by omega) (by omega), this, List.drop_eq_getElem_cons hlt]
  simp only [Option.bind_some]
  unfold saidV
  rw [List.any_cons]
  by_cases h : (lowB (cutA es[i])).toList = nm.toList
  ·
   rw [if_pos h]
   have : nmIs es[i] nm.toList = true := by unfold nmIs; rw [beq_iff_eq]; exact h
   rw [this]; rfl
  ·
   rw [if_neg h]
   have : nmIs es[i] nm.toList = false := by unfold nmIs; rw [beq_eq_false_iff_ne]; exact h
   rw [this]; rfl
theorem rsd_eval (es : List ByteArray) (nm : ByteArray) (hl : es.length ≤ 1000000) (hs : ∀ e ∈ es, e.size ≤ 80000) (k : Nat) (hk : 3000001 < k) : pantryref04_said.f k es nm = some (saidV es nm.toList) := by
 unfold pantryref04_said.f
 exact rsd_l0 es nm hl hs es.length 0 k (Nat.zero_add _) (by omega)
theorem told_l0 (es : List ByteArray) (nm : ByteArray) (other bare : Int) (most : Bool) (hl : es.length ≤ 1000000) (hs : ∀ e ∈ es, e.size ≤ 80000) : ∀ (d i k : Nat) (o : Int), i + d = es.length → d + 3000000 < k → pantryref04_told.l0 k es nm other bare most o (i : Int) = some (toldV nm.toList other bare most o (es.drop i)) := by
 intro d
 induction d with
 | zero =>
  intro i k o hi hk
  obtain ⟨k, rfl⟩ : ∃ j, k = j + 1 := ⟨k - 1, by omega⟩
  simp only [pantryref04_told.l0]
  rw [if_neg (by omega), List.drop_of_length_le (by omega)]
  rfl
 | succ d ih =>
  intro i k o hi hk
  obtain ⟨k, rfl⟩ : ∃ j, k = j + 1 := ⟨k - 1, by omega⟩
  have hlt : i < es.length := by omega
  have hsz := hs _ (List.getElem_mem hlt)
  have hc := cut_size es[i] 80000 hsz
  have nx : ∀ o, pantryref04_told.l0 k es nm other bare most o ((i : Int) + 1) = some (toldV nm.toList other bare most o (es.drop (i + 1))) := fun o => by
   have := ih (i + 1) k o (by omega) (by omega)
   rwa [show ((i + 1 : Nat) : Int) = (i : Int) + 1 by omega] at this
  simp only [pantryref04_told.l0]
  rw [if_pos (by omega), if_pos (by omega), rdB es i hlt, cut_eval _ (by omega) k (by omega)]
  simp only [Option.bind_some]
  rw [rlow_eval _ (by omega) k (by omega), w64n (by omega) (by omega), List.drop_eq_getElem_cons hlt, toldV]
  simp only [Option.bind_some]
  by_cases h : (lowB (cutA es[i])).toList = nm.toList
  ·
   have hn : nmIs es[i] nm.toList = true := by unfold nmIs; rw [beq_iff_eq]; exact h
   rw [if_pos h, hn, if_pos rfl, rsec_eval _ (by omega) other k (by omega)]
   simp only [Option.bind_some]
   have fin : ∀ s, s = secE es[i] other bare → (if o < 0 then pantryref04_told.l0 k es nm other bare most s ((i : Int) + 1) else if most = true then (if s > o then pantryref04_told.l0 k es nm other bare most s ((i : Int) + 1) else pantryref04_told.l0 k es nm other bare most o ((i : Int) + 1)) else (if s < o then pantryref04_told.l0 k es nm other bare most s ((i : Int) + 1) else pantryref04_told.l0 k es nm other bare most o ((i : Int) + 1))) = some (toldV nm.toList other bare most (stepL most o (secE es[i] other bare)) (es.drop (i + 1))) := by
    rintro s rfl
    simp only [nx]
    unfold stepL
    by_cases h0 : o < 0
    ·
     rw [if_pos h0, if_pos (.inl h0)]
    ·
     rw [if_neg h0]
     cases most with
     | true =>
      rw [if_pos rfl]
      by_cases h2 : secE es[i] other bare > o
      ·
       rw [if_pos h2, if_pos (.inr (.inl ⟨rfl, h2⟩))]
      ·
       rw [if_neg h2, if_neg (by rintro (x | ⟨_, x⟩ | ⟨x, _⟩) <;> first | exact h0 x | exact h2 x | cases x)]
     | false =>
      rw [if_neg (by simp)]
      by_cases h2 : secE es[i] other bare < o
      ·
       rw [if_pos h2, if_pos (.inr (.inr ⟨rfl, h2⟩))]
      ·
       rw [if_neg h2, if_neg (by rintro (x | ⟨x, _⟩ | ⟨_, x⟩) <;> first | exact h0 x | exact h2 x | cases x)]
   by_cases hh : cutH es[i] = true
   ·
    rw [if_pos hh]
    exact fin _ (by unfold secE; rw [if_pos hh])
   ·
    rw [if_neg hh]
    exact fin _ (by unfold secE; rw [if_neg hh])
  ·
   have hn : nmIs es[i] nm.toList = false := by unfold nmIs; rw [beq_eq_false_iff_ne]; exact h
   rw [if_neg h, hn, if_neg (by simp), nx]
theorem told_eval (es : List ByteArray) (nm : ByteArray) (other bare : Int) (most : Bool) (hl : es.length ≤ 1000000) (hs : ∀ e ∈ es, e.size ≤ 80000) (k : Nat) (hk : 4000001 < k) : pantryref04_told.f k es nm other bare most = some (toldV nm.toList other bare most (-1) es) := by
 unfold pantryref04_told.f
 exact told_l0 es nm other bare most hl hs es.length 0 k (-1) (Nat.zero_add _) (by omega)
def nNoStore : List UInt8 := [110, 111, 45, 115, 116, 111, 114, 101]
def nNoCache : List UInt8 := [110, 111, 45, 99, 97, 99, 104, 101]
def nPrivate : List UInt8 := [112, 114, 105, 118, 97, 116, 101]
def nPublic : List UInt8 := [112, 117, 98, 108, 105, 99]
def nMust : List UInt8 := [109, 117, 115, 116, 45, 114, 101, 118, 97, 108, 105, 100, 97, 116, 101]
def nProxy : List UInt8 := [112, 114, 111, 120, 121, 45, 114, 101, 118, 97, 108, 105, 100, 97, 116, 101]
def nOnly : List UInt8 := [111, 110, 108, 121, 45, 105, 102, 45, 99, 97, 99, 104, 101, 100]
def nMax : List UInt8 := [109, 97, 120, 45, 97, 103, 101]
def nShared : List UInt8 := [115, 45, 109, 97, 120, 97, 103, 101]
def nFresh : List UInt8 := [109, 105, 110, 45, 102, 114, 101, 115, 104]
def nStale : List UInt8 := [109, 97, 120, 45, 115, 116, 97, 108, 101]
/-- One directive, all of a Control at once. -/
def oneV (c : Ctl) (e : ByteArray) : Ctl :=
 ⟨c.s0 || nmIs e nNoStore, c.s1 || nmIs e nNoCache, c.s2 || nmIs e nPrivate, c.s3 || nmIs e nPublic, c.s4 || (nmIs e nMust || nmIs e nProxy), c.s5 || nmIs e nOnly,
  if nmIs e nMax = true then stepL false c.s6 (secE e 0 0) else c.s6, if nmIs e nShared = true then stepL false c.s7 (secE e 0 0) else c.s7,
  if nmIs e nFresh = true then stepL true c.s8 (secE e 2147483648 2147483648) else c.s8, if nmIs e nStale = true then stepL false c.s9 (secE e 0 2147483648) else c.s9⟩
theorem least_step (o n : Int) : leastV o n = stepL false o n := by
 unfold leastV stepL
 by_cases h : o < 0 ∨ n < o
 ·
  rw [if_pos h, if_pos (by rcases h with h | h; exact .inl h; exact .inr (.inr ⟨rfl, h⟩))]
 ·
  rw [if_neg h, if_neg (by rintro (x | ⟨x, _⟩ | ⟨_, x⟩); exact h (.inl x); cases x; exact h (.inr x))]
theorem most_step (o n : Int) (ho : -1 ≤ o) (hn : 0 ≤ n) : mx o n = stepL true o n := by
 unfold mx stepL
 by_cases h : o < n
 ·
  rw [if_pos h, if_pos (.inr (.inl ⟨rfl, h⟩))]
 ·
  rw [if_neg h, if_neg (by rintro (x | ⟨_, x⟩ | ⟨x, _⟩); omega; omega; cases x)]
theorem secE_flat (e : ByteArray) (v : Int) : secV (cutB e) v = secE e v v := by
 unfold secE
 by_cases h : cutH e = true
 ·
  rw [if_pos h]
 ·
  rw [if_neg h, cut_none e (by simpa using h), sec_none]
theorem dir_eval (c : Ctl) (e : ByteArray) (he : e.size ≤ 80000) (hc : -1 ≤ c.s8) (k : Nat) (hk : 2000000 < k) : dirV k c (lowB (cutA e)) (cutB e) (cutH e) = some (oneV c e) ∧ -1 ≤ (oneV c e).s8 := by
 have hsz := (cut_size e 80000 he).2
 have hs : ∀ other, control_seconds.f k (cutB e) other = some (secV (cutB e) other) := fun other => sec_eval _ (by omega) other k hk
 have h8 : 0 ≤ secE e 2147483648 2147483648 := by rw [← secE_flat]; exact sec_range _ _ (by omega)
 have hm : ∀ x, nmIs e x = ((lowB (cutA e)).toList == x) := fun x => rfl
 have hmx : mx c.s8 (secE e 2147483648 2147483648) = stepL true c.s8 (secE e 2147483648 2147483648) := most_step _ _ hc h8
 constructor
 ·
  unfold dirV oneV
  simp only [hs, Option.bind_some, hm, least_step, secE_flat, hmx]
  generalize hnm : (lowB (cutA e)).toList = nm
  by_cases c0 : nm = nNoStore
  ·
   subst c0; simp [nNoStore, nNoCache, nPrivate, nPublic, nMust, nProxy, nOnly, nMax, nShared, nFresh, nStale]
  by_cases c1 : nm = nNoCache
  ·
   subst c1; simp [nNoStore, nNoCache, nPrivate, nPublic, nMust, nProxy, nOnly, nMax, nShared, nFresh, nStale]
  by_cases c2 : nm = nPrivate
  ·
   subst c2; simp [nNoStore, nNoCache, nPrivate, nPublic, nMust, nProxy, nOnly, nMax, nShared, nFresh, nStale]
  by_cases c3 : nm = nPublic
  ·
   subst c3; simp [nNoStore, nNoCache, nPrivate, nPublic, nMust, nProxy, nOnly, nMax, nShared, nFresh, nStale]
  by_cases c4 : nm = nMust
  ·
   subst c4; simp [nNoStore, nNoCache, nPrivate, nPublic, nMust, nProxy, nOnly, nMax, nShared, nFresh, nStale]
  by_cases c5 : nm = nProxy
  ·
   subst c5; simp [nNoStore, nNoCache, nPrivate, nPublic, nMust, nProxy, nOnly, nMax, nShared, nFresh, nStale]
  by_cases c6 : nm = nOnly
  ·
   subst c6; simp [nNoStore, nNoCache, nPrivate, nPublic, nMust, nProxy, nOnly, nMax, nShared, nFresh, nStale]
  by_cases c7 : nm = nMax
  ·
   subst c7; simp [nNoStore, nNoCache, nPrivate, nPublic, nMust, nProxy, nOnly, nMax, nShared, nFresh, nStale]
  by_cases c8 : nm = nShared
  ·
   subst c8; simp [nNoStore, nNoCache, nPrivate, nPublic, nMust, nProxy, nOnly, nMax, nShared, nFresh, nStale]
  by_cases c9 : nm = nFresh
  ·
   subst c9; simp [nNoStore, nNoCache, nPrivate, nPublic, nMust, nProxy, nOnly, nMax, nShared, nFresh, nStale]
  by_cases c10 : nm = nStale
  ·
   subst c10
   unfold secE
   cases cutH e <;> simp [nNoStore, nNoCache, nPrivate, nPublic, nMust, nProxy, nOnly, nMax, nShared, nFresh, nStale]
  have f : ∀ x, nm ≠ x → (nm == x) = false := fun x h => beq_eq_false_iff_ne.2 h
  simp only [f _ c0, f _ c1, f _ c2, f _ c3, f _ c4, f _ c5, f _ c6, f _ c7, f _ c8, f _ c9, f _ c10, Bool.or_false, Bool.false_eq_true, if_false]
  simp only [nNoStore, nNoCache, nPrivate, nPublic, nMust, nProxy, nOnly, nMax, nShared, nFresh, nStale] at c0 c1 c2 c3 c4 c5 c6 c7 c8 c9 c10
  rw [if_neg c0, if_neg c1, if_neg c2, if_neg c3, if_neg c4, if_neg c5, if_neg c6, if_neg c7, if_neg c8, if_neg c9, if_neg c10]
 ·
  unfold oneV
  show -1 ≤ (if nmIs e nFresh = true then stepL true c.s8 (secE e 2147483648 2147483648) else c.s8)
  split
  ·
   unfold stepL
   split <;> omega
  ·
   exact hc
def allC (c : Ctl) (es : List ByteArray) : Ctl := es.foldl oneV c
theorem ofGo_eval (k : Nat) (hk : 2000000 < k) : ∀ (es : List ByteArray) (c : Ctl), (∀ e ∈ es, e.size ≤ 80000) → -1 ≤ c.s8 → ofGo k c es = some (allC c es) := by
 intro es
 induction es with
 | nil => intro c _ _; rfl
 | cons e es ih =>
  intro c hs hc
  obtain ⟨h1, h2⟩ := dir_eval c e (hs e (by simp)) hc k hk
  rw [ofGo, h1]
  simp only [Option.bind_some]
  exact ih _ (fun x hx => hs x (by simp [hx])) h2
theorem allC_eq : ∀ (es : List ByteArray) (c : Ctl), allC c es = ⟨c.s0 || saidV es nNoStore, c.s1 || saidV es nNoCache, c.s2 || saidV es nPrivate, c.s3 || saidV es nPublic, c.s4 || (saidV es nMust || saidV es nProxy), c.s5 || saidV es nOnly, toldV nMax 0 0 false c.s6 es, toldV nShared 0 0 false c.s7 es, toldV nFresh 2147483648 2147483648 true c.s8 es, toldV nStale 0 2147483648 false c.s9 es⟩ := by
 intro es
 induction es with
 | nil => intro c; simp [allC, saidV, toldV]
 | cons e es ih =>
  intro c
  have : allC c (e :: es) = allC (oneV c e) es := rfl
  rw [this, ih]
  simp only [oneV, saidV, List.any_cons, toldV, Ctl.mk.injEq, Bool.or_assoc, and_true, true_and]
  ac_rfl
def ccU : ByteArray := ⟨#[67, 97, 99, 104, 101, 45, 67, 111, 110, 116, 114, 111, 108]⟩
def ccL : ByteArray := ⟨#[99, 97, 99, 104, 101, 45, 99, 111, 110, 116, 114, 111, 108]⟩
def prU : ByteArray := ⟨#[80, 114, 97, 103, 109, 97]⟩
def prL : ByteArray := ⟨#[112, 114, 97, 103, 109, 97]⟩
def ncB : ByteArray := ⟨#[110, 111, 45, 99, 97, 99, 104, 101]⟩
theorem cc_low : ccL = lowB ccU := by decide +kernel
theorem pr_low : prL = lowB prU := by decide +kernel
theorem isOf_low (n : ByteArray) : isOf [lowB n] = isOf [n] := by
 funext o
 unfold isOf
 simp only [List.any_cons, List.any_nil, Bool.or_false]
 exact sameB_low n o.f0
theorem allV_low (n : ByteArray) (l : List S46) : allV (lowB n) l = allV n l := by unfold allV; rw [isOf_low]
theorem getB_low (n : ByteArray) (l : List S46) : getB (lowB n) l = getB n l := by unfold getB; rw [allV_low]
theorem elemsB_low (n : ByteArray) (l : List S46) : elemsB (lowB n) l = elemsB n l := by unfold elemsB; rw [getB_low]
def pragV (l : List S46) : Bool := decide ((allV ccU l).length = 0) && ((elemsB prU l).any fun e => sameB e ncB)
def finV (l : List S46) (c : Ctl) : Ctl := if pragV l = true then { c with s1 := true } else c
def ofV (l : List S46) : Ctl := finV l (allC noneC (elemsB ccU l))
theorem end_eval (l : List S46) (h : SmallF l) (c : Ctl) (k : Nat) (hk : 3000100 < k) : ofEnd k l c = some (finV l c) := by
 unfold ofEnd
 have hl := h.1
 have g : field_List_Get.f k l ccU = some (getB ccU l, decide (0 < (allV ccU l).length)) := get_eval ccU l (by decide) h.2 (by omega) k (by omega)
 have g' : field_List_Get.f k l (⟨#[67, 97, 99, 104, 101, 45, 67, 111, 110, 116, 114, 111, 108]⟩ : ByteArray) = some (getB ccU l, decide (0 < (allV ccU l).length)) := g
 have hh : field_List_Has.f k l prU ncB = some ((elemsB prU l).any fun e => sameB e ncB) := has_eval prU ncB l (by decide) (by decide) h k hk
 have hh' : field_List_Has.f k l (⟨#[80, 114, 97, 103, 109, 97]⟩ : ByteArray) (⟨#[110, 111, 45, 99, 97, 99, 104, 101]⟩ : ByteArray) = some ((elemsB prU l).any fun e => sameB e ncB) := hh
 rw [g']
 simp only [Option.bind_some]
 unfold finV pragV
 by_cases h0 : 0 < (allV ccU l).length
 ·
  rw [if_pos (decide_eq_true h0), decide_eq_false (by omega), Bool.false_and, if_neg (by simp)]
 ·
  rw [if_neg (by rw [decide_eq_false h0]; simp), hh', decide_eq_true (by omega), Bool.true_and]
  rfl
theorem of_eval (l : List S46) (h : SmallF l) (k : Nat) (hk : 3000100 < k) : control_Of.f k l = some (ctTup (ofV l)) := by
 unfold control_Of.f
 obtain ⟨e1, e2⟩ := elems_ok ccU l h
 have el : field_List_Elements.f k l (⟨#[67, 97, 99, 104, 101, 45, 67, 111, 110, 116, 114, 111, 108]⟩ : ByteArray) = some (elemsB ccU l) := elems_eval ccU l (by decide) h k hk
 rw [el]
 simp only [Option.bind_some]
 rw [if_pos ⟨by omega, fun e he => by have := e2 e he; omega⟩, ofGo_eval k (by omega) _ noneC e2 (by decide)]
 simp only [Option.bind_some]
 rw [end_eval l h _ k hk]
 rfl
theorem tl (a : Array UInt8) : (⟨a⟩ : ByteArray).toList = a.toList := ByteArray.toList_eq ..
theorem rof_eval (l : List S46) (h : SmallF l) (k : Nat) (hk : 4000200 < k) : pantryref04_Of.f k (l.map conv) = some (ctTup (ofV l)) := by
 obtain ⟨e1, e2⟩ := elems_ok ccU l h
 obtain ⟨k, rfl⟩ : ∃ j, k = j + 1 := ⟨k - 1, by omega⟩
 unfold pantryref04_Of.f
 have el : pantryref03_Elements.f (k + 1) (l.map conv) (⟨#[99, 97, 99, 104, 101, 45, 99, 111, 110, 116, 114, 111, 108]⟩ : ByteArray) = some (elemsB ccU l) := by
  have := relems_eval ccL l (by decide) h (k + 1) (by omega)
  rw [cc_low, elemsB_low] at this
  rw [← this, ← cc_low]
  rfl
 have sd : ∀ (nm : ByteArray), pantryref04_said.f (k + 1) (elemsB ccU l) nm = some (saidV (elemsB ccU l) nm.toList) := fun nm => rsd_eval _ nm (by omega) e2 (k + 1) (by omega)
 have td : ∀ (nm : ByteArray) (a b : Int) (m : Bool), pantryref04_told.f k (elemsB ccU l) nm a b m = some (toldV nm.toList a b m (-1) (elemsB ccU l)) := fun nm a b m => told_eval _ nm a b m (by omega) e2 k (by omega)
 have gt : pantryref03_Get.f k (l.map conv) (⟨#[99, 97, 99, 104, 101, 45, 99, 111, 110, 116, 114, 111, 108]⟩ : ByteArray) = some (getB ccU l, ((allV ccU l).length : Int)) := by
  have := rget_eval ccL l (by decide) h k (by omega)
  rw [cc_low, getB_low, allV_low] at this
  rw [← this, ← cc_low]
  rfl
 have hs : pantryref03_Has.f k (l.map conv) (⟨#[112, 114, 97, 103, 109, 97]⟩ : ByteArray) (⟨#[110, 111, 45, 99, 97, 99, 104, 101]⟩ : ByteArray) = some ((elemsB prU l).any fun e => sameB e ncB) := by
  have := rhas_eval prL ncB l (by decide) (by decide) h k (by omega)
  rw [pr_low, elemsB_low] at this
  rw [← this, ← pr_low]
  rfl
 have fin : ∀ m : Bool, m = (saidV (elemsB ccU l) nMust || saidV (elemsB ccU l) nProxy) → pantryref04_Of.j0 (k + 1) (l.map conv) (elemsB ccU l) (saidV (elemsB ccU l) nNoStore) (saidV (elemsB ccU l) nNoCache) (saidV (elemsB ccU l) nPrivate) (saidV (elemsB ccU l) nPublic) m (saidV (elemsB ccU l) nOnly) 0 0 0 0 = some (ctTup (ofV l)) := by
  rintro m rfl
  simp only [pantryref04_Of.j0, td, Option.bind_some, gt, tl]
  have hofv : ofV l = finV l ⟨saidV (elemsB ccU l) nNoStore, saidV (elemsB ccU l) nNoCache, saidV (elemsB ccU l) nPrivate, saidV (elemsB ccU l) nPublic, saidV (elemsB ccU l) nMust || saidV (elemsB ccU l) nProxy, saidV (elemsB ccU l) nOnly, toldV nMax 0 0 false (-1) (elemsB ccU l), toldV nShared 0 0 false (-1) (elemsB ccU l), toldV nFresh 2147483648 2147483648 true (-1) (elemsB ccU l), toldV nStale 0 2147483648 false (-1) (elemsB ccU l)⟩ := by
   unfold ofV
   rw [allC_eq]
   simp only [noneC, Bool.false_or]
  rw [hofv]
  unfold finV pragV
  by_cases h0 : ((allV ccU l).length : Int) = 0
  ·
   rw [if_pos h0, hs, decide_eq_true (by omega), Bool.true_and]
   simp only [Option.bind_some]
   cases (elemsB prU l).any fun e => sameB e ncB with
   | true => rw [if_pos rfl, if_pos rfl]; rfl
   | false => rw [if_neg (by simp), if_neg (by simp)]; rfl
  ·
   rw [if_neg h0, decide_eq_false (by omega), Bool.false_and, if_neg (by simp)]
   rfl
 rw [el]
 simp only [Option.bind_some, sd, tl]
 by_cases hm : saidV (elemsB ccU l) nMust = true
 ·
  refine (if_pos hm).trans ?_
  exact fin true (by rw [hm]; rfl)
 ·
  refine (if_neg hm).trans ?_
  have hm2 : saidV (elemsB ccU l) nMust = false := by simpa using hm
  exact fin _ (by rw [hm2, Bool.false_or]; rfl)

/-! ## A site that can be gone through with -/
theorem rdS (s : S24) : rd_T24 [s] 0 = s := rfl
theorem sites_l1 (s : S24) (hs : s.f6.length ≤ 10) : ∀ (d i k : Nat), i + d = s.f6.length → d + 5 < k →
  ∃ b, pantrymade_SmallSites.l1 k [s] 1 0 s.f6 (s.f6.length : Int) (i : Int) [s] = some b := by
 intro d
 induction d with
 | zero =>
  intro i k hi hk
  obtain ⟨k, rfl⟩ : ∃ j, k = j + 2 := ⟨k - 2, by omega⟩
  simp only [pantrymade_SmallSites.l1]
  rw [if_neg (by omega), w64n (by omega) (by omega)]
  simp only [pantrymade_SmallSites.l0]
  rw [if_neg (by omega)]
  exact ⟨_, rfl⟩
 | succ d ih =>
  intro i k hi hk
  obtain ⟨k, rfl⟩ : ∃ j, k = j + 1 := ⟨k - 1, by omega⟩
  simp only [pantrymade_SmallSites.l1]
  rw [if_pos (by omega), if_pos (by omega), if_pos (by omega), w64n (by omega) (by omega)]
  split
  ·
   exact ⟨_, rfl⟩
  ·
   have := ih (i + 1) k (by omega) (by omega)
   rwa [show ((i + 1 : Nat) : Int) = (i : Int) + 1 by omega] at this
theorem sites_eval (s : S24) (k : Nat) (hk : 40 ≤ k) : ∃ b, pantrymade_SmallSites.f k [s] = some b := by
 obtain ⟨k, rfl⟩ : ∃ j, k = j + 2 := ⟨k - 2, by omega⟩
 have e : pantrymade_SmallSites.f (k + 2) [s] = pantrymade_SmallSites.l0 (k + 2) [s] 1 0 [s] := rfl
 rw [e]
 simp only [pantrymade_SmallSites.l0]
 rw [if_pos (by omega), if_pos (by omega), if_pos (by simp), rdS]
 split
 ·
  simp only [pantrymade_SmallSites.j1]
  rw [if_pos trivial]
  exact ⟨_, rfl⟩
 ·
  simp only [pantrymade_SmallSites.j1]
  by_cases h : (s.f6.length : Int) > 10
  ·
   rw [if_pos (decide_eq_true h)]
   exact ⟨_, rfl⟩
  ·
   rw [if_neg (by rw [decide_eq_false h]; simp)]
   exact sites_l1 s (by omega) s.f6.length 0 k (by omega) (by omega)
theorem fit_eval (a0 : ByteArray) (a1 a2 a3 : Int) (a4 a5 : Bool) (l6 : List ByteArray) (k : Nat) (hk : 40 ≤ k) :
  ∃ b, pantrylaw12_fit.f k a0 a1 a2 a3 a4 a5 l6 = some b ∧ (b = true → 0 ≤ a2 ∧ a2 ≤ 2147483648 ∧ 0 ≤ a3 ∧ a3 ≤ 2147483648) := by
 obtain ⟨b, hb⟩ := sites_eval ⟨a0, a1, a2, a3, a4, a5, l6⟩ k hk
 unfold pantrylaw12_fit.f
 rw [hb]
 simp only [Option.bind_some]
 cases b with
 | false => rw [if_neg (by simp)]; exact ⟨_, rfl, fun h => by cases h⟩
 | true =>
  rw [if_pos rfl]
  by_cases c1 : a2 ≥ 0
  ·
   rw [if_pos c1]
   by_cases c2 : a3 ≥ 0
   ·
    rw [if_pos c2]
    by_cases c3 : a2 ≤ 2147483648
    ·
     rw [if_pos c3]
     exact ⟨_, rfl, fun h => ⟨c1, c3, c2, of_decide_eq_true h⟩⟩
    ·
     rw [if_neg c3]; exact ⟨_, rfl, fun h => by cases h⟩
   ·
    rw [if_neg c2]; exact ⟨_, rfl, fun h => by cases h⟩
  ·
   rw [if_neg c1]; exact ⟨_, rfl, fun h => by cases h⟩

def starB (x : ByteArray) : Bool := decide (x.data.toList = [42])
def nmsOf (e : List ByteArray) : List ByteArray := (e.filter fun x => !starB x).map lowB
def varyU : ByteArray := ⟨#[86, 97, 114, 121]⟩
theorem nmsOf_cons (x : ByteArray) (r : List ByteArray) : nmsOf (x :: r) = if starB x = true then nmsOf r else lowB x :: nmsOf r := by
 unfold nmsOf
 cases h : starB x <;> simp [h]
theorem names_l0 (e : List ByteArray) (he : ∀ x ∈ e, x.size ≤ 140737488351232) (hl : e.length ≤ 1000000) : ∀ (d i k : Nat) (acc : List ByteArray) (star : Bool), i + d = e.length → acc.length ≤ i → d < k →
  key_Names.l0 k acc star e (e.length : Int) (i : Int) = some (namesB (acc ++ nmsOf (e.drop i)), star || (e.drop i).any starB) := by
 intro d
 induction d with
 | zero =>
  intro i k acc star hi ha hk
  obtain ⟨k, rfl⟩ : ∃ j, k = j + 1 := ⟨k - 1, by omega⟩
  simp only [key_Names.l0]
  rw [if_neg (by omega), if_pos (by omega), List.drop_of_length_le (by omega)]
  simp [nmsOf]
 | succ d ih =>
  intro i k acc star hi ha hk
  obtain ⟨k, rfl⟩ : ∃ j, k = j + 1 := ⟨k - 1, by omega⟩
  have hlt : i < e.length := by omega
  simp only [key_Names.l0]
  rw [if_pos (by omega), if_pos (by omega), if_pos (by omega), rdB e i hlt, w64n (by omega) (by omega), List.drop_eq_getElem_cons hlt, ByteArray.toList_eq]
  by_cases hs : e[i].data.toList = [42]
  ·
   have hb : starB e[i] = true := decide_eq_true hs
   rw [if_pos hs]
   refine (ih (i + 1) k acc true (by omega) (by omega) (by omega)).trans ?_
   rw [nmsOf_cons, if_pos hb, List.any_cons, hb, Bool.true_or, Bool.or_true]
  ·
   have hb : starB e[i] = false := decide_eq_false hs
   rw [if_neg hs]
   have hlo : sign_Lower.f e[i] = some (lowB e[i]) := by
    unfold sign_Lower.f
    rw [if_pos (he _ (List.getElem_mem hlt))]
   rw [hlo, Option.bind_some, if_pos (by omega)]
   refine (ih (i + 1) k (acc ++ [lowB e[i]]) star (by omega) (by simp; omega) (by omega)).trans ?_
   rw [nmsOf_cons, if_neg (by rw [hb]; simp), List.any_cons, hb, Bool.false_or, List.append_assoc]
   rfl
theorem names_eval (l : List S46) (h : SmallF l) (k : Nat) (hk : 3000200 < k) : key_Names.f k l = some (namesB (nmsOf (elemsB varyU l)), (elemsB varyU l).any starB) := by
 unfold key_Names.f
 have hok := elems_ok varyU l h
 rw [show (⟨#[86, 97, 114, 121]⟩ : ByteArray) = varyU from rfl, elems_eval varyU l (by decide) h k (by omega), Option.bind_some]
 have := names_l0 (elemsB varyU l) (fun x hx => by have := hok.2 x hx; omega) (by omega) (elemsB varyU l).length 0 k [] false (by omega) (by simp) (by omega)
 simpa using this

def expU : ByteArray := ⟨#[69, 120, 112, 105, 114, 101, 115]⟩
def expL : ByteArray := ⟨#[101, 120, 112, 105, 114, 101, 115]⟩
theorem exp_low : expL = lowB expU := by decide +kernel
theorem rgexp_eval (l : List S46) (h : SmallF l) (k : Nat) (hk : 40000 ≤ k) : pantryref03_Get.f k (l.map conv) (⟨#[101, 120, 112, 105, 114, 101, 115]⟩ : ByteArray) = some (getB expU l, ((allV expU l).length : Int)) := by
 rw [← getB_low expU l, ← allV_low expU l, ← exp_low]
 exact rget_eval expL l (by decide) h k (by omega)

/-! ## Names that the document puts into their order -/
theorem put_tot (l : List ByteArray) (s : ByteArray) (hl : l.length ≤ 1000000) : ∀ (d i k : Nat) (acc : List ByteArray) (dn : Bool), i + d = l.length → acc.length ≤ i + 1 → (dn = false → acc.length ≤ i) → 2 * d < k →
  ∃ r, pantryref11_put.l0 k l s acc dn (i : Int) = some r ∧ r.length ≤ acc.length + d + (if dn = true then 0 else 1) := by
 intro d
 induction d with
 | zero =>
  intro i k acc dn hi ha hb hk
  obtain ⟨k, rfl⟩ : ∃ j, k = j + 1 := ⟨k - 1, by omega⟩
  rw [pantryref11_put.l0, if_neg (by omega)]
  cases dn with
  | true => exact ⟨acc, if_pos rfl, by simp⟩
  | false =>
   rw [if_neg (by simp), if_pos (by omega)]
   exact ⟨_, rfl, by simp⟩
 | succ d ih =>
  intro i k acc dn hi ha hb hk
  obtain ⟨k, rfl⟩ : ∃ j, k = j + 2 := ⟨k - 2, by omega⟩
  have hlt : i < l.length := by omega
  have hw : wrap64 ((i : Int) + 1) = ((i + 1 : Nat) : Int) := by rw [w64n (by omega) (by omega)]; omega
  rw [pantryref11_put.l0, if_pos (by omega)]
  have j0 : ∀ (dn' : Bool) (acc' : List ByteArray), acc'.length ≤ i + 1 → (dn' = false → acc'.length ≤ i) → ∃ r, pantryref11_put.j1 (k + 1) l s acc' dn' (i : Int) false = some r ∧ r.length ≤ acc'.length + (d + 1) + (if dn' = true then 0 else 1) := fun dn' acc' h1 h2 => by
   rw [pantryref11_put.j1, if_neg (by simp), if_pos (by omega), if_pos (by omega), if_pos (by omega), hw]
   obtain ⟨r, e1, e2⟩ := ih (i + 1) k (acc' ++ [rdOf ByteArray.empty l (i : Int)]) dn' (by omega) (by rw [List.length_append, List.length_singleton]; omega) (fun h => by have := h2 h; rw [List.length_append, List.length_singleton]; omega) (by omega)
   rw [List.length_append, List.length_singleton] at e2
   exact ⟨r, e1, by omega⟩
  cases dn with
  | true =>
   rw [if_pos rfl]
   exact j0 true acc ha hb
  | false =>
   have hb' := hb rfl
   rw [if_neg (by simp), if_pos (by omega)]
   generalize (!(Op.bytesLess ((rdOf ByteArray.empty l (i : Int)).toList) s.toList)) = b
   cases b with
   | false => exact j0 false acc ha hb
   | true =>
    rw [pantryref11_put.j1, if_pos rfl, if_pos (by omega), if_pos (by omega), hw]
    by_cases h2 : (rdOf ByteArray.empty l (i : Int)).toList = s.toList
    ·
     rw [if_pos h2, if_pos (by omega)]
     obtain ⟨r, e1, e2⟩ := ih (i + 1) k (acc ++ [rdOf ByteArray.empty l (i : Int)]) true (by omega) (by rw [List.length_append, List.length_singleton]; omega) (fun h => by cases h) (by omega)
     rw [List.length_append, List.length_singleton, if_pos rfl] at e2
     exact ⟨r, e1, by rw [if_neg (by simp)]; omega⟩
    ·
     rw [if_neg h2, if_pos (by omega), Option.bind_some, if_pos (by rw [List.length_append, List.length_singleton]; omega)]
     obtain ⟨r, e1, e2⟩ := ih (i + 1) k (acc ++ [s] ++ [rdOf ByteArray.empty l (i : Int)]) true (by omega) (by rw [List.length_append, List.length_append, List.length_singleton, List.length_singleton]; omega) (fun h => by cases h) (by omega)
     rw [List.length_append, List.length_append, List.length_singleton, List.length_singleton, if_pos rfl] at e2
     exact ⟨r, e1, by rw [if_neg (by simp)]; omega⟩
theorem rnames_l0 (e : List ByteArray) (he : ∀ x ∈ e, x.size ≤ 100000) (hl : e.length ≤ 100000) : ∀ (d i k : Nat) (acc : List ByteArray) (star : Bool), i + d = e.length → acc.length ≤ i → d + 400000 < k →
  ∃ r, pantryref11_Names.l0 k e acc star (i : Int) = some (r, star || (e.drop i).any starB) := by
 intro d
 induction d with
 | zero =>
  intro i k acc star hi ha hk
  obtain ⟨k, rfl⟩ : ∃ j, k = j + 1 := ⟨k - 1, by omega⟩
  refine ⟨acc, ?_⟩
  rw [pantryref11_Names.l0, if_neg (by omega), List.drop_of_length_le (by omega)]
  simp
 | succ d ih =>
  intro i k acc star hi ha hk
  obtain ⟨k, rfl⟩ : ∃ j, k = j + 1 := ⟨k - 1, by omega⟩
  have hlt : i < e.length := by omega
  have hs := he e[i] (List.getElem_mem hlt)
  have hw : wrap64 ((i : Int) + 1) = ((i + 1 : Nat) : Int) := by rw [w64n (by omega) (by omega)]; omega
  rw [pantryref11_Names.l0, if_pos (by omega), if_pos (by omega), rdB e i hlt, ByteArray.toList_eq, hw, List.drop_eq_getElem_cons hlt]
  by_cases h : e[i].data.toList = [42]
  ·
   have hb : starB e[i] = true := decide_eq_true h
   rw [if_pos h]
   obtain ⟨r, h1⟩ := ih (i + 1) k acc true (by omega) (by omega) (by omega)
   refine ⟨r, ?_⟩
   rw [h1, List.any_cons, hb, Bool.true_or, Bool.or_true]
   try rfl
  ·
   have hb : starB e[i] = false := decide_eq_false h
   obtain ⟨q, e1, e2⟩ := put_tot acc (lowB e[i]) (by omega) acc.length 0 k [] false (by omega) (by simp) (fun _ => by simp) (by omega)
   have e3 : pantryref11_put.f k acc (lowB e[i]) = some q := e1
   rw [if_neg h, rlow_eval _ (by omega) k (by omega), Option.bind_some, e3, Option.bind_some]
   rw [if_neg (by simp)] at e2
   simp only [List.length_nil] at e2
   obtain ⟨r, h1⟩ := ih (i + 1) k q star (by omega) (by omega) (by omega)
   refine ⟨r, ?_⟩
   rw [h1, List.any_cons, hb, Bool.false_or]
def varyL : ByteArray := ⟨#[118, 97, 114, 121]⟩
theorem vary_low : varyL = lowB varyU := by decide +kernel
theorem rstar_eval (l : List S46) (h : SmallF l) (k : Nat) (hk : 5000000 < k) : ∃ ns, pantryref11_Names.f k (l.map conv) = some (ns, (elemsB varyU l).any starB) := by
 have hok := elems_ok varyU l h
 have el : pantryref03_Elements.f k (l.map conv) (⟨#[118, 97, 114, 121]⟩ : ByteArray) = some (elemsB varyU l) := by
  rw [← elemsB_low varyU l, ← vary_low]
  exact relems_eval varyL l (by decide) h k (by omega)
 unfold pantryref11_Names.f
 rw [el, Option.bind_some]
 obtain ⟨r, hr⟩ := rnames_l0 (elemsB varyU l) (fun x hx => by have := hok.2 x hx; omega) hok.1 (elemsB varyU l).length 0 k [] false (by omega) (by simp) (by have := hok.1; omega)
 refine ⟨r, ?_⟩
 simpa using hr
/-! ## What is kept -/
def authU : ByteArray := ⟨#[65, 117, 116, 104, 111, 114, 105, 122, 97, 116, 105, 111, 110]⟩
def authL : ByteArray := ⟨#[97, 117, 116, 104, 111, 114, 105, 122, 97, 116, 105, 111, 110]⟩
theorem auth_low : authL = lowB authU := by decide +kernel
theorem rgauth_eval (l : List S46) (h : SmallF l) (k : Nat) (hk : 40000 ≤ k) : pantryref03_Get.f k (l.map conv) (⟨#[97, 117, 116, 104, 111, 114, 105, 122, 97, 116, 105, 111, 110]⟩ : ByteArray) = some (getB authU l, ((allV authU l).length : Int)) := by
 rw [← getB_low authU l, ← allV_low authU l, ← auth_low]
 exact rget_eval authL l (by decide) h k (by omega)
def usB (st : Int) : Bool := (fresh_usual.f st).getD false
theorem us_eval (st : Int) : fresh_usual.f st = some (usB st) := by
 unfold usB fresh_usual.f
 (repeat' split) <;> rfl
def finB (st ma sh : Int) (ex : Bool) : Bool := if st ≥ 200 then (if st ≤ 599 then (if st = 206 then false else if st = 304 then false else if ma ≥ 0 then true else if sh ≥ 0 then true else ex) else false) else false
def keptB (keep : Bool) (m : ByteArray) (q0 p0 p2 star auth p3 p4 : Bool) (sh ma st : Int) (ex : Bool) : Bool :=
 if keep = true then (if m.toList = ([71, 69, 84] : List UInt8) then (if (q0 || p0 || p2 || star) = true then false else if (auth && !p3 && !p4 && decide (sh < 0)) = true then false else if usB st = true then true else finB st ma sh ex) else false) else false
def keptA (keep : Bool) (m : ByteArray) (asked came : List S46) (st : Int) : Bool :=
 keptB keep m (ofV asked).s0 (ofV came).s0 (ofV came).s2 ((elemsB varyU came).any starB) (decide (0 < (allV authU asked).length)) (ofV came).s3 (ofV came).s4 (ofV came).s7 (ofV came).s6 st (decide (0 < (allV expU came).length))
theorem kept_j1 (k : Nat) (st : Int) (ex x : Bool) (p : Ctl) : fresh_Kept.j1 (k + 1) st ex x p.s0 p.s1 p.s2 p.s3 p.s4 p.s5 p.s6 p.s7 p.s8 p.s9 = some (if x = true then false else if usB st = true then true else finB st p.s6 p.s7 ex) := by
 simp only [fresh_Kept.j1, us_eval, Option.bind_some]
 cases x with
 | true => simp
 | false =>
  cases usB st with
  | true => simp
  | false =>
   unfold finB
   simp only [Bool.false_eq_true, if_false]
   (repeat' split) <;> first | rfl | (exfalso; omega)
theorem kept_j0 (k : Nat) (st : Int) (auth ex x : Bool) (p : Ctl) : fresh_Kept.j0 (k + 2) st auth ex x p.s0 p.s1 p.s2 p.s3 p.s4 p.s5 p.s6 p.s7 p.s8 p.s9 = some (if x = true then false else if (auth && !p.s3 && !p.s4 && decide (p.s7 < 0)) = true then false else if usB st = true then true else finB st p.s6 p.s7 ex) := by
 simp only [fresh_Kept.j0, kept_j1]
 cases x <;> cases auth <;> cases p.s3 <;> cases p.s4 <;> simp
theorem kept_eval (s0 : ByteArray) (s1 s2 s3 : Int) (s4 s5 : Bool) (s6 : List ByteArray) (m : ByteArray) (asked came : List S46) (st : Int) (ha : SmallF asked) (hc : SmallF came) (k : Nat) (hk : 3000300 < k) :
  fresh_Kept.f k s0 s1 s2 s3 s4 s5 s6 m asked st came = some (keptA s5 m asked came st) := by
 have hl := ha.1
 have hl2 := hc.1
 have ga : field_List_Get.f k asked (⟨#[65, 117, 116, 104, 111, 114, 105, 122, 97, 116, 105, 111, 110]⟩ : ByteArray) = some (getB authU asked, decide (0 < (allV authU asked).length)) := get_eval authU asked (by decide) ha.2 (by omega) k (by omega)
 have gb : field_List_Get.f k came (⟨#[69, 120, 112, 105, 114, 101, 115]⟩ : ByteArray) = some (getB expU came, decide (0 < (allV expU came).length)) := get_eval expU came (by decide) hc.2 (by omega) k (by omega)
 obtain ⟨k, rfl⟩ : ∃ j, k = j + 2 := ⟨k - 2, by omega⟩
 unfold fresh_Kept.f keptA keptB
 rw [of_eval asked ha _ (by omega), of_eval came hc _ (by omega), ga, gb, names_eval came hc _ (by omega)]
 simp only [Option.bind_some, ctTup, kept_j0]
 cases s5 with
 | false => simp
 | true =>
  by_cases c2 : m.toList = ([71, 69, 84] : List UInt8)
  ·
   simp only [c2, if_true]
   cases (ofV asked).s0 with
   | true => simp
   | false =>
    cases (ofV came).s0 with
    | true => simp
    | false =>
     cases (ofV came).s2 with
     | true => simp
     | false => cases (elemsB varyU came).any starB <;> simp
  ·
   simp only [if_neg c2, if_true]
theorem rkept_j1 (l : List S46) (h : SmallF l) (k : Nat) (hk : 5000001 < k) (st : Int) (x : Bool) (p : Ctl) : pantryref12_Kept.j1 k st (l.map conv) x p.s0 p.s1 p.s2 p.s3 p.s4 p.s5 p.s6 p.s7 p.s8 p.s9 =
  some (if x = true then false else if (elemsB varyU l).any starB = true then false else if usB st = true then true else finB st p.s6 p.s7 (decide (0 < (allV expU l).length))) := by
 obtain ⟨k, rfl⟩ : ∃ j, k = j + 1 := ⟨k - 1, by omega⟩
 obtain ⟨ns, hns⟩ := rstar_eval l h k (by omega)
 simp only [pantryref12_Kept.j1, us_eval, hns, rgexp_eval l h k (by omega), Option.bind_some]
 cases x with
 | true => simp
 | false =>
  cases (elemsB varyU l).any starB with
  | true => simp
  | false =>
   cases usB st with
   | true => simp
   | false =>
    have e : decide (((allV expU l).length : Int) > 0) = decide (0 < (allV expU l).length) := by rw [decide_eq_decide]; omega
    unfold finB
    simp only [Bool.false_eq_true, if_false, e]
    (repeat' split) <;> first | rfl | (exfalso; omega)
theorem rkept_eval (s0 : ByteArray) (s1 s2 s3 : Int) (s4 s5 : Bool) (s6 : List ByteArray) (m : ByteArray) (asked came : List S46) (st : Int) (ha : SmallF asked) (hc : SmallF came) (k : Nat) (hk : 5000300 < k) :
  pantryref12_Kept.f k s0 s1 s2 s3 s4 s5 s6 m (asked.map conv) st (came.map conv) = some (keptA s5 m asked came st) := by
 obtain ⟨k, rfl⟩ : ∃ j, k = j + 1 := ⟨k - 1, by omega⟩
 have j0 : ∀ x : Bool, pantryref12_Kept.j0 (k + 1) (asked.map conv) st (came.map conv) x (ofV came).s0 (ofV came).s1 (ofV came).s2 (ofV came).s3 (ofV came).s4 (ofV came).s5 (ofV came).s6 (ofV came).s7 (ofV came).s8 (ofV came).s9 =
   some (if x = true then false else if (decide (0 < (allV authU asked).length) && !(ofV came).s3 && !(ofV came).s4 && decide ((ofV came).s7 < 0)) = true then false else if (elemsB varyU came).any starB = true then false else if usB st = true then true else finB st (ofV came).s6 (ofV came).s7 (decide (0 < (allV expU came).length))) := fun x => by
  simp only [pantryref12_Kept.j0, rgauth_eval asked ha k (by omega), Option.bind_some, rkept_j1 came hc k (by omega)]
  cases x with
  | true => simp
  | false =>
   by_cases c : 0 < (allV authU asked).length
   ·
    rw [if_neg (by simp), if_pos (show ((allV authU asked).length : Int) > 0 by omega), decide_eq_true c]
    cases (ofV came).s3 <;> cases (ofV came).s4 <;> simp
   ·
    rw [if_neg (by simp), if_neg (show ¬ ((allV authU asked).length : Int) > 0 by omega), decide_eq_false c]
    simp
 unfold pantryref12_Kept.f keptA keptB
 rw [rof_eval asked ha _ (by omega), rof_eval came hc _ (by omega)]
 simp only [Option.bind_some, ctTup, j0]
 cases s5 with
 | false => simp
 | true =>
  by_cases c2 : m.toList = ([71, 69, 84] : List UInt8)
  ·
   simp only [c2, if_true]
   cases (ofV asked).s0 with
   | true => simp
   | false =>
    cases (ofV came).s0 with
    | true => simp
    | false =>
     cases (ofV came).s2 with
     | true => simp
     | false =>
      cases (elemsB varyU came).any starB with
      | false => simp
      | true => simp
  ·
   simp only [if_neg c2, if_true]

/-! ## FreshKeeps -/
theorem law_FreshKeeps (s0 : ByteArray) (s1 s2 s3 : Int) (s4 s5 : Bool) (s6 : List ByteArray) (m : ByteArray) (asked : List S46) (st : Int) (came : List S46) (hr : asked.length ≤ 9223372036854775807) (hl : came.length ≤ 9223372036854775807) :
  ∃ k, pantrylaw12_FreshKeeps.f k s0 s1 s2 s3 s4 s5 s6 m asked st came = some true := by
 obtain ⟨K, hK⟩ : ∃ K, asked.length + came.length + 6000000 ≤ K := ⟨_, Nat.le_refl _⟩
 refine ⟨K + 1, ?_⟩
 have jt : pantrylaw12_FreshKeeps.j0 (K + 1) m asked st came true s0 s1 s2 s3 s4 s5 s6 = some true := by simp [pantrylaw12_FreshKeeps.j0]
 unfold pantrylaw12_FreshKeeps.f
 rw [anchor_ok _ (by omega)]
 simp only [Option.bind_some]
 rw [if_pos trivial]
 obtain ⟨b, hb, _⟩ := fit_eval s0 s1 s2 s3 s4 s5 s6 (K + 1) (by omega)
 rw [hb]
 simp only [Option.bind_some]
 cases b with
 | false => rw [if_neg (by simp)]; exact jt
 | true =>
 rw [if_pos rfl]
 obtain ⟨b, hb, hs⟩ := small_eval asked hr (K + 1) (by omega)
 rw [hb]
 simp only [Option.bind_some]
 cases b with
 | false => rw [if_neg (by simp)]; exact jt
 | true =>
 have q0 := (hs rfl).F
 rw [if_pos rfl]
 obtain ⟨b, hb, hs⟩ := small_eval came hl (K + 1) (by omega)
 rw [hb]
 simp only [Option.bind_some]
 cases b with
 | false => rw [if_neg (by simp)]; exact jt
 | true =>
 have q1 := (hs rfl).F
 have z0 := q0.1
 have z1 := q1.1
 rw [if_pos rfl]
 cases hm : decide ((m.size : Int) > 30) with
 | true => exact jt
 | false =>
 simp only [pantrylaw12_FreshKeeps.j0]
 rw [if_neg (by simp), kept_eval s0 s1 s2 s3 s4 s5 s6 m asked came st q0 q1 K (by omega)]
 simp only [Option.bind_some, pantrymade_Site.f]
 rw [made_eval asked (by omega) K (by omega)]
 simp only [Option.bind_some]
 rw [made_eval came (by omega) K (by omega)]
 simp only [Option.bind_some]
 rw [rkept_eval s0 s1 s2 s3 s4 s5 s6 m asked came st q0 q1 K (by omega)]
 simp

end Go.Proofs.YtgpekljckdgggaaGreatDoor.PAll
