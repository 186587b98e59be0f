import Derived.Test.YtcechlbeghcliaaDoorPAllx0
import Derived.Test.YtcechlbeghcliaaDoorPAllx1
import Derived.Test.YtcechlbeghcliaaDoorPAllx2
import Derived.Test.YtcechlbeghcliaaDoorPAllx3
import Derived.Test.YtcechlbeghcliaaDoorPAllx4
import Derived.Test.YtcechlbeghcliaaDoorPAllx5
import Derived.Test.YtcechlbeghcliaaDoorPAllx6
import Derived.Test.YtcechlbeghcliaaDoorPAllx7
import Derived.Test.YtcechlbeghcliaaDoorPAllx8
import Derived.Test.YtcechlbeghcliaaDoorPAllx9
import Derived.Test.YtcechlbeghcliaaDoorPAllx10
import Derived.Test.YtcechlbeghcliaaDoorPAllx11
import Derived.Test.YtcechlbeghcliaaDoorPAllx12
import Derived.Lib.Join
namespace Go.Proofs.YtcechlbeghcliaaDoor.PAll
open Go.RowKit Go.Proofs.YtcechlbeghcliaaDoorW.PrintWords Go.Proofs.YtcechlbeghcliaaDoorW.PrintLast Go.Proofs.YtcechlbeghcliaaDoorW.PrintMore
set_option linter.unusedVariables false
set_option linter.unusedSimpArgs false

theorem lowB_list (s : ByteArray) : (lowB s).data.toList = lowL s.data.toList := by simp [lowB]

theorem bt_at2 (s : ByteArray) (i : Nat) (h : i < s.data.toList.length) : bt s (i : Int) = ((s.data.toList[i]).toNat : Int) := by
  have h' : i < s.size := by simpa using h
  unfold bt
  simp only [Int.toNat_natCast]
  rw [dif_pos h']
  rfl

/-! What Without comes to (where With is not printed) -/
def isOf (ns : List ByteArray) (o : S49) : Bool := ns.any fun n => sameB n o.f0
def wout (ns : List ByteArray) (l : List S49) : List S49 := l.filter fun o => !isOf ns o
theorem w64n {x : Int} (h0 : -9223372036854775808 ≤ x) (h1 : x ≤ 9223372036854775807) : wrap64 x = x := by unfold wrap64; omega
theorem wout_l0 (ns : List ByteArray) (l : List S49) (hn : ns.length ≤ 140737488351232) (hns : ∀ x ∈ ns, x.size ≤ 140737488351232) (hl : ∀ x ∈ l, x.f0.size ≤ 140737488351232) (hlen : l.length < 4398046511104) :
    ∀ (d i : Nat) (acc : List S49) (k : Nat), i + d = l.length → acc.length ≤ i → d < k →
    field_List_Without.l0 k ns acc l (l.length : Int) (i : Int) = some (acc ++ wout ns (l.drop i)) := by
  intro d
  induction d with
  | zero =>
    intro i acc k hi ha hk
    obtain ⟨k, rfl⟩ : ∃ j, k = j + 1 := ⟨k - 1, by omega⟩
    simp only [field_List_Without.l0]
    rw [if_neg (by omega), List.drop_of_length_le (by omega)]
    simp [wout]
  | succ d ih =>
    intro i acc k hi ha hk
    obtain ⟨k, rfl⟩ : ∃ j, k = j + 1 := ⟨k - 1, by omega⟩
    have hlt : i < l.length := by omega
    have hx : rd_T49 l (i : Int) = l[i] := by simp [rd_T49, hlt]
    simp only [field_List_Without.l0]
    rw [if_pos (by omega), if_pos (by omega), if_pos (by omega), hx]
    unfold field_Field_named.f
    rw [if_pos ⟨hl _ (List.getElem_mem hlt), hn, hns⟩]
    simp only [Option.bind_some]
    rw [List.drop_eq_getElem_cons hlt, w64n (by omega) (by omega)]
    by_cases hs : isOf ns l[i] = true
    · have hs' : (ns.any fun n => sameB n l[i].f0) = true := hs
      rw [if_pos hs']
      have := ih (i + 1) acc k (by omega) (by omega) (by omega)
      rw [show ((i + 1 : Nat) : Int) = (i : Int) + 1 by omega] at this
      rw [this]
      unfold wout
      rw [List.filter_cons_of_neg (by simp [hs])]
    · have hs' : ¬ (ns.any fun n => sameB n l[i].f0) = true := hs
      rw [if_neg hs', if_pos (by omega)]
      have := ih (i + 1) (acc ++ [l[i]]) k (by omega) (by simp; omega) (by omega)
      rw [show ((i + 1 : Nat) : Int) = (i : Int) + 1 by omega] at this
      rw [this]
      unfold wout
      rw [List.filter_cons_of_pos (by simp [hs]), List.append_assoc]
      rfl
theorem wout_f (ns : List ByteArray) (l : List S49) (hn : ns.length ≤ 140737488351232) (hns : ∀ x ∈ ns, x.size ≤ 140737488351232) (hl : ∀ x ∈ l, x.f0.size ≤ 140737488351232) (hlen : l.length < 4398046511104) (k : Nat) (hk : l.length < k) :
    field_List_Without.f k l ns = some (wout ns l) := by
  unfold field_List_Without.f
  have := wout_l0 ns l hn hns hl hlen l.length 0 [] k (by omega) (by simp) hk
  simpa using this

/-! ## Fields, as lists -/
theorem anchor60 : pantrylaw13_anchor.f 60 = some true := by decide +kernel
theorem anchor_ok (k : Nat) (hk : 60 ≤ k) : pantrylaw13_anchor.f k = some true := by
  obtain ⟨j, rfl⟩ : ∃ j, k = 60 + j := ⟨k - 60, by omega⟩
  clear hk
  induction j with
  | zero => exact anchor60
  | succ j ih => exact pantrylaw13_anchor.mono _ _ ih
theorem rd39 (l : List S49) (i : Nat) (h : i < l.length) : rd_T49 l (i : Int) = l[i] := by simp [rd_T49, h]
theorem rdB (l : List ByteArray) (i : Nat) (h : i < l.length) : rdOf ByteArray.empty l (i : Int) = l[i] := by simp [rdOf, h]
def SmallF (l : List S49) : Prop := l.length ≤ 70 ∧ ∀ f ∈ l, f.f0.size ≤ 200 ∧ f.f1.size ≤ 9100
def SmallP (l : List S49) : Prop := l.length ≤ 30 ∧ ∀ f ∈ l, f.f0.size ≤ 100 ∧ f.f1.size ≤ 300
theorem SmallP.F {l : List S49} (h : SmallP l) : SmallF l := ⟨by have := h.1; omega, fun f hf => by have := h.2 f hf; omega⟩
theorem small_l0 (l : List S49) (hl : l.length ≤ 9223372036854775807) : ∀ (d i k : Nat), i + d = l.length → d < k →
    ∃ b, pantrylaw13_small.l0 k l l (l.length : Int) (i : Int) = some b ∧ (b = true → l.length ≤ 30 ∧ ∀ f ∈ l.drop i, f.f0.size ≤ 100 ∧ f.f1.size ≤ 300) := by
  intro d
  induction d with
  | zero =>
    intro i k hi hk
    obtain ⟨k, rfl⟩ : ∃ j, k = j + 1 := ⟨k - 1, by omega⟩
    simp only [pantrylaw13_small.l0]
    rw [if_neg (by omega)]
    refine ⟨_, rfl, fun h => ?_⟩
    have := of_decide_eq_true h
    rw [List.drop_of_length_le (by omega)]
    exact ⟨by omega, fun f hf => by cases hf⟩
  | succ d ih =>
    intro i k hi hk
    obtain ⟨k, rfl⟩ : ∃ j, k = j + 1 := ⟨k - 1, by omega⟩
    have hlt : i < l.length := by omega
    simp only [pantrylaw13_small.l0]
    rw [if_pos (by omega), if_pos (by omega), if_pos (by omega), rd39 l i hlt]
    by_cases h1 : ((l[i].f0).size : Int) > 100
    · rw [if_pos h1]; exact ⟨false, rfl, fun h => by cases h⟩
    · rw [if_neg h1]
      by_cases h2 : ((l[i].f1).size : Int) > 300
      · rw [if_pos h2]; exact ⟨false, rfl, fun h => by cases h⟩
      · rw [if_neg h2, w64n (by omega) (by omega)]
        obtain ⟨b, hb, hs⟩ := ih (i + 1) k (by omega) (by omega)
        refine ⟨b, hb, fun h => ?_⟩
        obtain ⟨h3, h4⟩ := hs h
        refine ⟨h3, fun f hf => ?_⟩
        rw [List.drop_eq_getElem_cons hlt] at hf
        rcases List.mem_cons.1 hf with rfl | hf
        · exact ⟨by omega, by omega⟩
        · exact h4 f hf
theorem small_eval (l : List S49) (hl : l.length ≤ 9223372036854775807) (k : Nat) (hk : l.length < k) : ∃ b, pantrylaw13_small.f k l = some b ∧ (b = true → SmallP l) := by
  obtain ⟨b, hb, hs⟩ := small_l0 l hl l.length 0 k (by omega) hk
  exact ⟨b, hb, fun h => by simpa [SmallP] using hs h⟩

theorem rd36 (l : List S53) (i : Nat) (h : i < l.length) : rd_T53 l (i : Int) = l[i] := by simp [rd_T53, h]
def conv (f : S49) : S53 := ⟨f.f0, f.f1⟩
theorem conv_inj {f g : S49} (h : conv f = conv g) : f = g := by
  cases f; cases g
  simp only [conv, S53.mk.injEq] at h
  rw [h.1, h.2]
theorem made_l0 (l : List S49) (hl : l.length < 4398046511104) : ∀ (d i : Nat) (acc : List S53) (k : Nat), i + d = l.length → acc.length ≤ i → d < k →
    pantrymade_Fields.l0 k acc l (l.length : Int) (i : Int) = some (acc ++ (l.drop i).map conv) := by
  intro d
  induction d with
  | zero =>
    intro i acc k hi ha hk
    obtain ⟨k, rfl⟩ : ∃ j, k = j + 1 := ⟨k - 1, by omega⟩
    simp only [pantrymade_Fields.l0]
    rw [if_neg (by omega), List.drop_of_length_le (by omega)]
    simp
  | succ d ih =>
    intro i acc k hi ha hk
    obtain ⟨k, rfl⟩ : ∃ j, k = j + 1 := ⟨k - 1, by omega⟩
    have hlt : i < l.length := by omega
    simp only [pantrymade_Fields.l0]
    rw [if_pos (by omega), if_pos (by omega), if_pos (by omega), if_pos (by omega), rd39 l i hlt, w64n (by omega) (by omega)]
    have := ih (i + 1) (acc ++ [conv l[i]]) k (by omega) (by simp; omega) (by omega)
    rw [show ((i + 1 : Nat) : Int) = (i : Int) + 1 by omega] at this
    rw [List.drop_eq_getElem_cons hlt, List.map_cons, ← List.singleton_append (x := conv l[i]), ← List.append_assoc]
    exact this
theorem made_eval (l : List S49) (hl : l.length < 4398046511104) (k : Nat) (hk : l.length < k) : pantrymade_Fields.f k l = some (l.map conv) := by
  unfold pantrymade_Fields.f
  have := made_l0 l hl l.length 0 [] k (by omega) (by simp) hk
  simpa using this

/-! The reference's small letters -/
def lowI (x : Int) : Int := if x ≥ 65 ∧ x ≤ 90 then (x + 32) % 256 else x
theorem lowI_u8 (c : UInt8) : UInt8.ofNat (lowI (c.toNat : Int)).toNat = lowU c := by
  have := c.toNat_lt
  unfold lowI lowU
  by_cases h : 65 ≤ c.toNat ∧ c.toNat ≤ 90
  · rw [if_pos (by omega), if_pos h]
    congr 1
    omega
  · rw [if_neg (by omega), if_neg h]
    simp
theorem rlow_l0 (s : ByteArray) (hs : s.size ≤ 140737488351232) : ∀ (d i : Nat) (acc : List Int) (k : Nat), i + d = s.size → acc.length ≤ i → d < k →
    pantryref01_Lower.l0 k s acc (i : Int) = some (strOfNums (acc ++ (s.data.toList.drop i).map fun c => lowI (c.toNat : Int))) := by
  intro d
  induction d with
  | zero =>
    intro i acc k hi ha hk
    obtain ⟨k, rfl⟩ : ∃ j, k = j + 1 := ⟨k - 1, by omega⟩
    have hz : s.data.toList.length = s.size := by simp
    simp only [pantryref01_Lower.l0]
    rw [if_neg (by omega), List.drop_of_length_le (by omega)]
    simp
  | succ d ih =>
    intro i acc k hi ha hk
    obtain ⟨k, rfl⟩ : ∃ j, k = j + 1 := ⟨k - 1, by omega⟩
    have hz : s.data.toList.length = s.size := by simp
    have hlt : i < s.data.toList.length := by omega
    simp only [pantryref01_Lower.l0]
    rw [if_pos (by omega), if_pos (by omega), bt_at2 s i hlt, w64n (by omega) (by omega)]
    have hc := (s.data.toList[i]).toNat_lt
    rw [List.drop_eq_getElem_cons hlt, List.map_cons]
    have step : ∀ x : Int, lowI ((s.data.toList[i]).toNat : Int) = x → pantryref01_Lower.l0 k s (acc ++ [x]) ((i : Int) + 1) = some (strOfNums (acc ++ lowI ((s.data.toList[i]).toNat : Int) :: (s.data.toList.drop (i + 1)).map fun c => lowI (c.toNat : Int))) := by
      rintro x rfl
      have := ih (i + 1) (acc ++ [lowI ((s.data.toList[i]).toNat : Int)]) k (by omega) (by simp; omega) (by omega)
      rw [show ((i + 1 : Nat) : Int) = (i : Int) + 1 by omega] at this
      rw [this, List.append_assoc]
      rfl
    by_cases h1 : ((s.data.toList[i]).toNat : Int) ≥ 65
    · rw [if_pos h1]
      by_cases h2 : ((s.data.toList[i]).toNat : Int) ≤ 90
      · rw [if_pos h2, if_pos (by omega)]
        exact step _ (by unfold lowI; rw [if_pos ⟨h1, h2⟩])
      · rw [if_neg h2, if_pos (by omega)]
        exact step _ (by unfold lowI; rw [if_neg (by omega)])
    · rw [if_neg h1, if_pos (by omega)]
      exact step _ (by unfold lowI; rw [if_neg (by omega)])
theorem rlow_eval (s : ByteArray) (hs : s.size ≤ 140737488351232) (k : Nat) (hk : s.size < k) : pantryref01_Lower.f k s = some (lowB s) := by
  unfold pantryref01_Lower.f
  have := rlow_l0 s hs s.size 0 [] k (by omega) (by simp) hk
  rw [show ((0 : Nat) : Int) = 0 from rfl] at this
  rw [this]
  congr 1
  unfold strOfNums lowB lowL
  simp only [List.nil_append, List.drop_zero, List.map_map]
  congr 2
  apply List.map_congr_left
  intro c _
  exact lowI_u8 c

theorem is_eval (f v n : ByteArray) (hf : f.size ≤ 140737488351232) (hn : n.size ≤ 140737488351232) (k : Nat) (hk : f.size < k) (hk2 : n.size < k) : pantryref03_Field_Is.f k f v n = some (sameB n f) := by
  unfold pantryref03_Field_Is.f
  rw [rlow_eval f hf k hk, rlow_eval n hn k hk2]
  simp only [Option.bind_some]
  congr 1
  unfold sameB
  rw [ByteArray.toList_eq, ByteArray.toList_eq, Bool.eq_iff_iff, beq_iff_eq, beq_iff_eq]
  simp only [lowB]
  exact eq_comm

def rwout (n : ByteArray) (l : List S53) : List S53 := l.filter fun o => !sameB n o.f0
theorem rwout_l0 (n : ByteArray) (l : List S53) (hn : n.size ≤ 1000000) (hl : ∀ x ∈ l, x.f0.size ≤ 1000) (hlen : l.length ≤ 1000) : ∀ (d i : Nat) (acc : List S53) (k : Nat), i + d = l.length → acc.length ≤ i → d + 1000001 < k →
    pantryref03_Without.l0 k l n acc (i : Int) = some (acc ++ rwout n (l.drop i)) := by
  intro d
  induction d with
  | zero =>
    intro i acc k hi ha hk
    obtain ⟨k, rfl⟩ : ∃ j, k = j + 1 := ⟨k - 1, by omega⟩
    simp only [pantryref03_Without.l0]
    rw [if_neg (by omega), List.drop_of_length_le (by omega)]
    simp [rwout]
  | succ d ih =>
    intro i acc k hi ha hk
    obtain ⟨k, rfl⟩ : ∃ j, k = j + 1 := ⟨k - 1, by omega⟩
    have hlt : i < l.length := by omega
    have hx := hl _ (List.getElem_mem hlt)
    simp only [pantryref03_Without.l0]
    rw [if_pos (by omega), if_pos (by omega), rd36 l i hlt, is_eval _ _ n (by omega) (by omega) k (by omega) (by omega)]
    simp only [Option.bind_some]
    rw [List.drop_eq_getElem_cons hlt, w64n (by omega) (by omega)]
    cases hs : sameB n l[i].f0 with
    | true =>
      rw [if_pos rfl]
      have := ih (i + 1) acc k (by omega) (by omega) (by omega)
      rw [show ((i + 1 : Nat) : Int) = (i : Int) + 1 by omega] at this
      rw [this]
      unfold rwout
      rw [List.filter_cons_of_neg (by simp [hs])]
    | false =>
      rw [if_neg (by simp), if_pos (by omega)]
      have := ih (i + 1) (acc ++ [l[i]]) k (by omega) (by simp; omega) (by omega)
      rw [show ((i + 1 : Nat) : Int) = (i : Int) + 1 by omega] at this
      unfold rwout
      rw [List.filter_cons_of_pos (by simp [hs])]
      refine Eq.trans this ?_
      rw [List.append_assoc]
      rfl
theorem rwout_f (n : ByteArray) (l : List S53) (hn : n.size ≤ 1000000) (hl : ∀ x ∈ l, x.f0.size ≤ 1000) (hlen : l.length ≤ 1000) (k : Nat) (hk : 1002002 < k) : pantryref03_Without.f k l n = some (rwout n l) := by
  unfold pantryref03_Without.f
  have := rwout_l0 n l hn hl hlen l.length 0 [] k (by omega) (by simp) (by omega)
  simpa using this

/-! ## All, Get, Same -/
def allV (n : ByteArray) (l : List S49) : List ByteArray := (l.filter (isOf [n])).map (·.f1)
theorem all_l0 (n : ByteArray) (l : List S49) (hn : n.size ≤ 140737488351232) (hl : ∀ x ∈ l, x.f0.size ≤ 140737488351232) (hlen : l.length < 4398046511104) :
    ∀ (d i : Nat) (acc : List ByteArray) (k : Nat), i + d = l.length → acc.length ≤ i → d < k →
    field_List_All.l0 k n acc l (l.length : Int) (i : Int) = some (acc ++ allV n (l.drop i)) := by
  intro d
  induction d with
  | zero =>
    intro i acc k hi ha hk
    obtain ⟨k, rfl⟩ : ∃ j, k = j + 1 := ⟨k - 1, by omega⟩
    simp only [field_List_All.l0]
    rw [if_neg (by omega), List.drop_of_length_le (by omega)]
    simp [allV]
  | succ d ih =>
    intro i acc k hi ha hk
    obtain ⟨k, rfl⟩ : ∃ j, k = j + 1 := ⟨k - 1, by omega⟩
    have hlt : i < l.length := by omega
    simp only [field_List_All.l0]
    rw [if_pos (by omega), if_pos (by omega), if_pos (by omega), rd39 l i hlt]
    unfold field_Field_named.f
    rw [if_pos ⟨hl _ (List.getElem_mem hlt), by simp, by simpa using hn⟩]
    simp only [Option.bind_some]
    rw [List.drop_eq_getElem_cons hlt, w64n (by omega) (by omega)]
    by_cases hs : isOf [n] l[i] = true
    · have hs' : ([n].any fun n => sameB n l[i].f0) = true := hs
      rw [if_pos hs', if_pos (by omega)]
      have := ih (i + 1) (acc ++ [l[i].f1]) k (by omega) (by simp; omega) (by omega)
      rw [show ((i + 1 : Nat) : Int) = (i : Int) + 1 by omega] at this
      rw [this]
      unfold allV
      rw [List.filter_cons_of_pos hs, List.append_assoc]
      rfl
    · have hs' : ¬ ([n].any fun n => sameB n l[i].f0) = true := hs
      rw [if_neg hs']
      have := ih (i + 1) acc k (by omega) (by omega) (by omega)
      rw [show ((i + 1 : Nat) : Int) = (i : Int) + 1 by omega] at this
      rw [this]
      unfold allV
      rw [List.filter_cons_of_neg hs]
theorem all_eval (n : ByteArray) (l : List S49) (hn : n.size ≤ 140737488351232) (hl : ∀ x ∈ l, x.f0.size ≤ 140737488351232) (hlen : l.length < 4398046511104) (k : Nat) (hk : l.length < k) : field_List_All.f k l n = some (allV n l) := by
  unfold field_List_All.f
  have := all_l0 n l hn hl hlen l.length 0 [] k (by omega) (by simp) hk
  simpa using this
theorem inter_len (sep : List UInt8) (M : Nat) : ∀ (xs : List (List UInt8)), (∀ x ∈ xs, x.length ≤ M) → (sep.intercalate xs).length ≤ xs.length * (M + sep.length) := by
  intro xs
  induction xs with
  | nil => intro _; simp [List.intercalate]
  | cons x xs ih =>
    intro h
    have h1 := h x (by simp)
    have h2 := ih (fun y hy => h y (by simp [hy]))
    cases xs with
    | nil => simp [List.intercalate]; omega
    | cons y ys =>
      have e : sep.intercalate (x :: y :: ys) = x ++ (sep ++ sep.intercalate (y :: ys)) := by simp [List.intercalate]
      rw [e]
      simp only [List.length_append, List.length_cons, Nat.add_mul, Nat.one_mul] at *
      omega
theorem get_eval (n : ByteArray) (l : List S49) (hn : n.size ≤ 140737488351232) (hs : ∀ x ∈ l, x.f0.size ≤ 200 ∧ x.f1.size ≤ 9100) (hlen : l.length ≤ 1000000) (k : Nat) (hk : l.length < k) :
    field_List_Get.f k l n = some (⟨(joinB (allV n l) ⟨#[44, 32]⟩).toArray⟩, decide (0 < (allV n l).length)) := by
  unfold field_List_Get.f
  rw [all_eval n l hn (fun x hx => by have := (hs x hx).1; omega) (by omega) k hk]
  simp only [Option.bind_some]
  have hle : (allV n l).length ≤ l.length := by
    unfold allV
    rw [List.length_map]
    exact List.length_filter_le _ _
  have hok : joinOk (allV n l) ⟨#[44, 32]⟩ := by
    refine ⟨by omega, ?_⟩
    unfold joinB Lib.join
    have := inter_len (⟨#[44, 32]⟩ : ByteArray).data.toList 9100 ((allV n l).map (·.data.toList)) (fun x hx => by
      obtain ⟨y, hy, rfl⟩ := List.mem_map.1 hx
      unfold allV at hy
      obtain ⟨f, hf, rfl⟩ := List.mem_map.1 hy
      have := (hs f (List.mem_filter.1 hf).1).2
      simpa using this)
    rw [List.length_map] at this
    have h2 : ((⟨#[44, 32]⟩ : ByteArray).data.toList).length = 2 := rfl
    rw [h2] at this
    have : (allV n l).length * (9100 + 2) ≤ 1000000 * 9102 := Nat.mul_le_mul_right _ (by omega)
    omega
  unfold strings_Join.f
  rw [if_pos hok]
  simp only [Option.bind_some]
  congr 2
  rw [decide_eq_decide]
  omega

theorem same_l0 (a : List S53) (hb : a.length ≤ 1000000) : ∀ (d i k : Nat), i + d = a.length → d < k → pantryref03_Same.l0 k a a (i : Int) = some true := by
  intro d
  induction d with
  | zero =>
    intro i k hi hk
    obtain ⟨k, rfl⟩ : ∃ j, k = j + 1 := ⟨k - 1, by omega⟩
    simp only [pantryref03_Same.l0]
    rw [if_neg (by omega)]
  | succ d ih =>
    intro i k hi hk
    obtain ⟨k, rfl⟩ : ∃ j, k = j + 1 := ⟨k - 1, by omega⟩
    simp only [pantryref03_Same.l0]
    rw [if_pos (by omega), if_pos (by omega), if_pos (by omega), w64n (by omega) (by omega)]
    have := ih (i + 1) k (by omega) (by omega)
    rw [show ((i + 1 : Nat) : Int) = (i : Int) + 1 by omega] at this
    rw [if_neg (by simp), this]
theorem same_eval (a : List S53) (hb : a.length ≤ 1000000) (k : Nat) (hk : a.length < k) : pantryref03_Same.f k a a = some true := by
  unfold pantryref03_Same.f
  rw [if_pos rfl]
  exact same_l0 a hb a.length 0 k (by omega) hk

/-! ## FieldParts -/
theorem inter_app (sep : List UInt8) : ∀ (A B : List (List UInt8)), A ≠ [] → B ≠ [] → sep.intercalate (A ++ B) = sep.intercalate A ++ (sep ++ sep.intercalate B) := by
  intro A
  induction A with
  | nil => intro B h; exact absurd rfl h
  | cons x A ih =>
    intro B _ hB
    cases A with
    | nil =>
      cases B with
      | nil => exact absurd rfl hB
      | cons y ys => simp [List.intercalate]
    | cons z A =>
      have := ih B (by simp) hB
      have e1 : sep.intercalate (x :: z :: A) = x ++ (sep ++ sep.intercalate (z :: A)) := by simp [List.intercalate]
      have e2 : sep.intercalate (x :: z :: A ++ B) = x ++ (sep ++ sep.intercalate (z :: A ++ B)) := by simp [List.intercalate]
      rw [e1, e2, this]
      simp
def commaB : ByteArray := ⟨#[44, 32]⟩
def getB (n : ByteArray) (l : List S49) : ByteArray := ⟨(joinB (allV n l) commaB).toArray⟩
theorem getB_list (n : ByteArray) (l : List S49) : (getB n l).toList = joinB (allV n l) commaB := by
  rw [ByteArray.toList_eq]
  simp [getB]
theorem allV_app (n : ByteArray) (a b : List S49) : allV n (a ++ b) = allV n a ++ allV n b := by
  unfold allV
  rw [List.filter_append, List.map_append]
theorem joinB_app (A B : List ByteArray) (hA : A ≠ []) (hB : B ≠ []) : joinB (A ++ B) commaB = joinB A commaB ++ ([44, 32] ++ joinB B commaB) := by
  unfold joinB Lib.join
  rw [List.map_append]
  exact inter_app _ _ _ (by simpa using hA) (by simpa using hB)
theorem getB_size (n : ByteArray) (l : List S49) (h : SmallF l) : (getB n l).size ≤ 640000 := by
  have hle : (allV n l).length ≤ l.length := by
    unfold allV
    rw [List.length_map]
    exact List.length_filter_le _ _
  have := inter_len commaB.data.toList 9100 ((allV n l).map (·.data.toList)) (fun x hx => by
    obtain ⟨y, hy, rfl⟩ := List.mem_map.1 hx
    unfold allV at hy
    obtain ⟨f, hf, rfl⟩ := List.mem_map.1 hy
    have := (h.2 f (List.mem_filter.1 hf).1).2
    simpa using this)
  rw [List.length_map] at this
  have h2 : (commaB.data.toList).length = 2 := rfl
  rw [h2] at this
  have h3 : (allV n l).length * (9100 + 2) ≤ 70 * 9102 := Nat.mul_le_mul_right _ (by have := h.1; omega)
  have h4 : (getB n l).size = (joinB (allV n l) commaB).length := by
    show (joinB (allV n l) commaB).toArray.size = _
    simp
  rw [h4]
  show (List.intercalate _ _).length ≤ _
  omega

/-! ## Lists of elements -/
def endL : Bool → List UInt8 → Nat
  | _, [] => 0
  | q, [c] => if c = 34 then 1 else if q = true ∧ c = 92 then 1 else if q = false ∧ c = 44 then 0 else 1
  | q, c :: d :: l => if c = 34 then 1 + endL (!q) (d :: l) else if q = true ∧ c = 92 then 2 + endL q l else if q = false ∧ c = 44 then 0 else 1 + endL q (d :: l)
theorem endL_le : ∀ (n : Nat) (l : List UInt8) (q : Bool), l.length ≤ n → endL q l ≤ l.length := by
  intro n
  induction n with
  | zero =>
    intro l q h
    obtain rfl := List.eq_nil_of_length_eq_zero (by omega : l.length = 0)
    simp [endL]
  | succ n ih =>
    intro l q h
    match l, h with
    | [], _ => simp [endL]
    | [c], _ =>
      unfold endL
      simp only [List.length_cons, List.length_nil]
      split
      · omega
      · split
        · omega
        · split <;> omega
    | c :: d :: l, h =>
      simp only [List.length_cons] at h
      have h1 := ih (d :: l) (!q) (by simp; omega)
      have h2 := ih l q (by omega)
      have h3 := ih (d :: l) q (by simp; omega)
      unfold endL
      simp only [List.length_cons] at *
      split
      · omega
      · split
        · omega
        · split <;> omega
theorem u8_eq (c d : UInt8) : ((c.toNat : Int) = (d.toNat : Int)) ↔ c = d := by
  constructor
  · intro h
    exact UInt8.toNat_inj.1 (by omega)
  · rintro rfl; rfl
theorem end_past (s : ByteArray) (q : Bool) (i : Nat) (h : s.size ≤ i) (k : Nat) (hk : 0 < k) : sign_end.l0 k s q (i : Int) = some (s.size : Int) := by
  obtain ⟨k, rfl⟩ : ∃ j, k = j + 1 := ⟨k - 1, by omega⟩
  simp only [sign_end.l0]
  rw [if_neg (by omega)]
theorem end_l0 (s : ByteArray) (hs : s.size ≤ 1000000000) : ∀ (d i k : Nat) (q : Bool), i + d = s.size → 2 * d + 1 < k → sign_end.l0 k s q (i : Int) = some ((i + endL q (s.data.toList.drop i) : Nat) : Int) := by
  intro d
  induction d using Nat.strongRecOn with
  | _ d ih =>
    intro i k q hi hk
    have hz : s.data.toList.length = s.size := by simp
    cases d with
    | zero =>
      rw [end_past s q i (by omega) k (by omega), List.drop_of_length_le (by omega)]
      simp only [endL]
      congr 2
      omega
    | succ d =>
      obtain ⟨k, rfl⟩ : ∃ j, k = j + 1 := ⟨k - 1, by omega⟩
      have hlt : i < s.data.toList.length := by omega
      have n1 : ∀ (kk : Nat), 2 * d + 1 < kk → ∀ (q : Bool), sign_end.l0 kk s q ((i : Int) + 1) = some ((i + 1 + endL q (s.data.toList.drop (i + 1)) : Nat) : Int) := fun kk hkk q => by
        have := ih d (by omega) (i + 1) kk q (by omega) hkk
        rwa [show ((i + 1 : Nat) : Int) = (i : Int) + 1 by omega] at this
      have n2 : d = 0 ∨ 0 < d ∧ ∀ (kk : Nat), 2 * d < kk → ∀ (q : Bool), sign_end.l0 kk s q ((i : Int) + 1 + 1) = some ((i + 2 + endL q (s.data.toList.drop (i + 2)) : Nat) : Int) := by
        rcases Nat.eq_zero_or_pos d with h | h
        · exact .inl h
        · refine .inr ⟨h, fun kk hkk q => ?_⟩
          have := ih (d - 1) (by omega) (i + 2) kk q (by omega) (by omega)
          rwa [show ((i + 2 : Nat) : Int) = (i : Int) + 1 + 1 by omega] at this
      simp only [sign_end.l0]
      have hbt := bt_at2 s i hlt
      rw [if_pos (by omega), if_pos (by omega), hbt, w64n (by omega) (by omega)]
      rw [List.drop_eq_getElem_cons hlt]
      have e34 : ((s.data.toList[i]).toNat : Int) = 34 ↔ s.data.toList[i] = 34 := u8_eq _ 34
      have e92 : ((s.data.toList[i]).toNat : Int) = 92 ↔ s.data.toList[i] = 92 := u8_eq _ 92
      have e44 : ((s.data.toList[i]).toNat : Int) = 44 ↔ s.data.toList[i] = 44 := u8_eq _ 44
      generalize s.data.toList[i] = c at *
      have hstep : ∀ (q q' : Bool), endL q (c :: s.data.toList.drop (i + 1)) = 1 + endL q' (s.data.toList.drop (i + 1)) → some ((i + 1 + endL q' (s.data.toList.drop (i + 1)) : Nat) : Int) = some ((i + endL q (c :: s.data.toList.drop (i + 1)) : Nat) : Int) := by
        intro q q' h
        rw [h]
        congr 2
        omega
      by_cases h1 : c = 34
      · rw [if_pos (e34.2 h1), n1 _ (by omega)]
        refine hstep _ _ ?_
        subst h1
        cases s.data.toList.drop (i + 1) <;> simp [endL]
      · rw [if_neg (fun h => h1 (e34.1 h))]
        cases q with
        | true =>
          rw [if_pos rfl]
          obtain ⟨k, rfl⟩ : ∃ j, k = j + 1 := ⟨k - 1, by omega⟩
          simp only [sign_end.j1]
          by_cases h2 : c = 92
          · have hb : (((c.toNat : Int)) == 92) = true := beq_iff_eq.2 (e92.2 h2)
            rw [hb, if_pos rfl, w64n (x := (i : Int) + 1) (by omega) (by omega), w64n (by omega) (by omega)]
            rcases n2 with rfl | ⟨hd0, n2⟩
            · have := end_past s true (i + 2) (by omega) k (by omega)
              rw [show ((i + 2 : Nat) : Int) = (i : Int) + 1 + 1 by omega] at this
              rw [this, List.drop_of_length_le (by omega)]
              subst h2
              have e1 : endL true [(92 : UInt8)] = 1 := by decide
              rw [e1]
              exact congrArg some (by omega)
            · rw [n2 _ (by omega)]
              subst h2
              cases hd : s.data.toList.drop (i + 1) with
              | nil =>
                have := congrArg List.length hd
                rw [List.length_drop] at this
                simp only [List.length_nil] at this
                omega
              | cons x l =>
                have e2 : s.data.toList.drop (i + 2) = l := by
                  have := congrArg (List.drop 1) hd
                  rw [List.drop_drop] at this
                  simpa using this
                rw [e2]
                have e1 : endL true ((92 : UInt8) :: x :: l) = 2 + endL true l := by simp [endL]
                rw [e1]
                exact congrArg some (by omega)
          · have hb : (((c.toNat : Int)) == 92) = false := beq_eq_false_iff_ne.2 (fun h => h2 (e92.1 h))
            rw [hb, if_neg (by simp), if_pos trivial, w64n (by omega) (by omega), n1 _ (by omega)]
            refine hstep _ _ ?_
            cases s.data.toList.drop (i + 1) <;> simp [endL, h1, h2]
        | false =>
          rw [if_neg (by simp)]
          obtain ⟨k, rfl⟩ : ∃ j, k = j + 1 := ⟨k - 1, by omega⟩
          simp only [sign_end.j1]
          rw [if_neg (by simp), if_neg (by simp), if_pos (by omega), if_pos (by omega), hbt]
          by_cases h3 : c = 44
          · rw [if_pos (e44.2 h3)]
            subst h3
            cases s.data.toList.drop (i + 1) <;> simp [endL]
          · rw [if_neg (fun h => h3 (e44.1 h)), w64n (by omega) (by omega), n1 _ (by omega)]
            refine hstep _ _ ?_
            cases s.data.toList.drop (i + 1) <;> simp [endL, h1, h3]

def toB (l : List UInt8) : ByteArray := ⟨l.toArray⟩
theorem toB_list (l : List UInt8) : (toB l).data.toList = l := by simp [toB]
theorem of_list (s : ByteArray) : toB s.data.toList = s := by cases s; simp [toB]
theorem size_l (s : ByteArray) : s.size = s.data.toList.length := by simp
theorem ext_l (s : ByteArray) (a b : Nat) : (s.extract a b).data.toList = (s.data.toList.drop a).take (b - a) := by
  rw [ByteArray.data_extract, Array.toList_extract]
def trimL (l : List UInt8) : List UInt8 := Lib.trimS l [32, 9]
theorem dropWhile_len {α : Type} (p : α → Bool) (l : List α) : (l.dropWhile p).length ≤ l.length := (List.dropWhile_sublist p).length_le
theorem trimL_len (l : List UInt8) : (trimL l).length ≤ l.length := by
  unfold trimL Lib.trimS Lib.trimLeftS Lib.trimRightS
  refine Nat.le_trans (dropWhile_len _ _) ?_
  rw [List.length_reverse]
  refine Nat.le_trans (dropWhile_len _ _) ?_
  rw [List.length_reverse]
  exact Nat.le_refl _
theorem trim_eval (s : ByteArray) (hs : s.size ≤ 9223372036854775807) : sign_Trim.f s = some (toB (trimL s.data.toList)) := by
  unfold sign_Trim.f strings_Trim.f
  rw [if_pos ⟨hs, by decide, by decide⟩]
  rfl
def listL : Nat → List UInt8 → List (List UInt8)
  | 0, _ => []
  | k + 1, l => if l = [] then [] else (if trimL (l.take (endL false l)) = [] then [] else [trimL (l.take (endL false l))]) ++ listL k (l.drop (endL false l + 1))
theorem list_l0 : ∀ (n : Nat) (s : ByteArray) (acc : List ByteArray) (k : Nat), s.size ≤ n → n ≤ 1000000000 → acc.length + s.size ≤ 1000000000 → 3 * n + 10 < k →
    sign_List.l0 k s acc = some (acc ++ (listL (n + 1) s.data.toList).map toB) := by
  intro n
  induction n with
  | zero =>
    intro s acc k h0 h1 h2 hk
    obtain ⟨k, rfl⟩ : ∃ j, k = j + 1 := ⟨k - 1, by omega⟩
    have hnil : s.data.toList = [] := List.eq_nil_of_length_eq_zero (by rw [← size_l]; omega)
    simp only [sign_List.l0]
    rw [ByteArray.toList_eq, hnil, if_pos rfl]
    simp [listL]
  | succ n ih =>
    intro s acc k h0 h1 h2 hk
    obtain ⟨k, rfl⟩ : ∃ j, k = j + 1 := ⟨k - 1, by omega⟩
    simp only [sign_List.l0]
    rw [ByteArray.toList_eq]
    by_cases hnil : s.data.toList = []
    · rw [if_pos hnil, hnil]
      simp [listL]
    · rw [if_neg hnil]
      have hpos : 0 < s.size := by
        rw [size_l]
        exact List.length_pos_iff.2 hnil
      have he : sign_end.f k s = some ((endL false s.data.toList : Nat) : Int) := by
        unfold sign_end.f
        have := end_l0 s (by omega) s.size 0 k false (by omega) (by omega)
        rw [List.drop_zero, Nat.zero_add] at this
        exact this
      have hle := endL_le s.data.toList.length s.data.toList false (Nat.le_refl _)
      rw [← size_l] at hle
      rw [he]
      simp only [Option.bind_some]
      rw [listL, if_neg hnil]
      generalize hE : endL false s.data.toList = E at *
      rw [if_pos (by omega), if_pos (by omega), trim_eval _ (by rw [ByteArray.size_extract]; omega)]
      simp only [Option.bind_some]
      rw [ByteArray.toList_eq, toB_list, ext_l, Int.toNat_natCast, List.drop_zero, Nat.sub_zero]
      have hmn : mn (wrap64 ((E : Int) + 1)) (s.size : Int) = ((min (E + 1) s.size : Nat) : Int) := by
        rw [w64n (by omega) (by omega)]
        unfold mn
        split <;> omega
      rw [hmn, Int.toNat_natCast]
      have hsz : (s.extract (min (E + 1) s.size) s.size).size ≤ n := by rw [ByteArray.size_extract]; omega
      have hdl : (s.extract (min (E + 1) s.size) s.size).data.toList = s.data.toList.drop (E + 1) := by
        rw [ext_l]
        have hz := size_l s
        by_cases hc : E + 1 ≤ s.size
        · rw [Nat.min_eq_left hc]
          exact List.take_of_length_le (by rw [List.length_drop]; omega)
        · rw [List.drop_of_length_le (l := s.data.toList) (i := E + 1) (by omega), List.drop_of_length_le (by omega)]
          exact List.take_nil
      have hsz2 : (s.extract (min (E + 1) s.size) s.size).size ≤ s.size - 1 := by rw [ByteArray.size_extract]; omega
      by_cases ht : trimL (s.data.toList.take E) = []
      · rw [if_pos ht, if_pos ht, if_pos (by omega), if_pos (by omega), List.nil_append]
        rw [ih _ acc k hsz (by omega) (by omega) (by omega), hdl]
      · rw [if_neg ht, if_neg ht, if_pos (by omega), if_pos (by omega), if_pos (by omega)]
        rw [ih _ (acc ++ [toB (trimL (s.data.toList.take E))]) k hsz (by omega) (by simp; omega) (by omega), hdl]
        simp
theorem list_eval (s : ByteArray) (hs : s.size ≤ 1000000) (k : Nat) (hk : 3000100 < k) : sign_List.f k s = some ((listL (s.size + 1) s.data.toList).map toB) := by
  unfold sign_List.f
  have := list_l0 s.size s [] k (Nat.le_refl _) (by omega) (by simp; omega) (by omega)
  simpa using this
theorem listL_len : ∀ (n : Nat) (l : List UInt8), (listL n l).length ≤ n ∧ ∀ x ∈ listL n l, x.length ≤ l.length := by
  intro n
  induction n with
  | zero => intro l; simp [listL]
  | succ n ih =>
    intro l
    rw [listL]
    by_cases h : l = []
    · rw [if_pos h]; simp
    · rw [if_neg h]
      obtain ⟨i1, i2⟩ := ih (l.drop (endL false l + 1))
      have hd : (l.drop (endL false l + 1)).length ≤ l.length := by rw [List.length_drop]; omega
      by_cases ht : trimL (l.take (endL false l)) = []
      · rw [if_pos ht, List.nil_append]
        exact ⟨by omega, fun x hx => Nat.le_trans (i2 x hx) hd⟩
      · rw [if_neg ht]
        refine ⟨by simp; omega, fun x hx => ?_⟩
        rcases List.mem_append.1 hx with hx | hx
        · obtain rfl := List.mem_singleton.1 hx
          refine Nat.le_trans (trimL_len _) ?_
          rw [List.length_take]
          omega
        · exact Nat.le_trans (i2 x hx) hd
def elemsB (n : ByteArray) (l : List S49) : List ByteArray := (listL ((getB n l).size + 1) (getB n l).data.toList).map toB
theorem elems_eval (n : ByteArray) (l : List S49) (hn : n.size ≤ 1000) (h : SmallF l) (k : Nat) (hk : 3000100 < k) : field_List_Elements.f k l n = some (elemsB n l) := by
  unfold field_List_Elements.f
  have g : field_List_Get.f k l n = some (getB n l, decide (0 < (allV n l).length)) := get_eval n l (by omega) h.2 (by have := h.1; omega) k (by have := h.1; omega)
  rw [g]
  simp only [Option.bind_some]
  have := getB_size n l h
  rw [list_eval _ (by omega) k hk]
  rfl
theorem elems_ok (n : ByteArray) (l : List S49) (h : SmallF l) : (elemsB n l).length ≤ 900000 ∧ ∀ x ∈ elemsB n l, x.size ≤ 640000 := by
  have hg := getB_size n l h
  obtain ⟨i1, i2⟩ := listL_len ((getB n l).size + 1) (getB n l).data.toList
  unfold elemsB
  refine ⟨by rw [List.length_map]; omega, fun x hx => ?_⟩
  obtain ⟨y, hy, rfl⟩ := List.mem_map.1 hx
  have := i2 y hy
  rw [← size_l] at this
  rw [size_l, toB_list]
  omega

/-! Small letters of small letters -/
theorem lowU_idem (c : UInt8) : lowU (lowU c) = lowU c := by
  unfold lowU
  by_cases h : 65 ≤ c.toNat ∧ c.toNat ≤ 90
  · rw [if_pos h]
    have e : (UInt8.ofNat (c.toNat + 32)).toNat = c.toNat + 32 := by simp; omega
    rw [if_neg (by rw [e]; omega)]
  · rw [if_neg h, if_neg h]
theorem lowL_idem (l : List UInt8) : lowL (lowL l) = lowL l := by
  unfold lowL
  rw [List.map_map]
  exact List.map_congr_left fun c _ => lowU_idem c
theorem lowB_size (s : ByteArray) : (lowB s).size = s.size := by
  rw [size_l, size_l, lowB_list]
  simp [lowL]
theorem sameB_low (a b : ByteArray) : sameB (lowB a) b = sameB a b := by
  unfold sameB
  rw [lowB_list, lowL_idem]
theorem sameB_low2 (a b : ByteArray) : sameB a (lowB b) = sameB a b := by
  unfold sameB
  rw [lowB_list, lowL_idem]

/-! ## The reference's lists -/
def rtr (l : List UInt8) : List UInt8 := (l.reverse.dropWhile (([32, 9] : List UInt8).contains ·)).reverse
def blk (c : UInt8) : Bool := ([32, 9] : List UInt8).contains c
theorem blank_eval (c : UInt8) : pantryref01_blank.f (c.toNat : Int) = some (blk c) := by
  have e32 : (c.toNat : Int) = 32 ↔ c = 32 := u8_eq c 32
  have e9 : (c.toNat : Int) = 9 ↔ c = 9 := u8_eq c 9
  unfold pantryref01_blank.f blk
  by_cases h : c = 32
  · subst h; rfl
  · rw [if_neg (fun x => h (e32.1 x))]
    by_cases h2 : c = 9
    · subst h2; rfl
    · have hb : ((c.toNat : Int) == 9) = false := beq_eq_false_iff_ne.2 (fun x => h2 (e9.1 x))
      rw [hb]
      simp [h, h2]
theorem rtr_snoc (l : List UInt8) (x : UInt8) : rtr (l ++ [x]) = if blk x = true then rtr l else l ++ [x] := by
  unfold rtr blk
  rw [List.reverse_append, List.reverse_singleton, List.singleton_append, List.dropWhile_cons]
  by_cases h : ([32, 9] : List UInt8).contains x = true
  · rw [if_pos h, if_pos h]
  · rw [if_neg h, if_neg h]
    simp
theorem rtrP_cons (p : UInt8 → Bool) (l : List UInt8) (x : UInt8) : ((x :: l).reverse.dropWhile p).reverse = if (l.reverse.dropWhile p).reverse = [] ∧ p x = true then [] else x :: (l.reverse.dropWhile p).reverse := by
  rw [List.reverse_cons, List.dropWhile_append]
  cases h : l.reverse.dropWhile p with
  | nil =>
    by_cases h2 : p x = true
    · simp [h2]
    · simp [h2]
  | cons y ys => simp
theorem rtr_cons (l : List UInt8) (x : UInt8) : rtr (x :: l) = if rtr l = [] ∧ blk x = true then [] else x :: rtr l := rtrP_cons blk l x
theorem trimL_eq (l : List UInt8) : rtr (l.dropWhile blk) = trimL l := by
  show rtr (l.dropWhile blk) = (rtr l).dropWhile blk
  induction l with
  | nil => rfl
  | cons x l ih =>
    rw [rtr_cons, List.dropWhile_cons]
    by_cases h : blk x = true
    · rw [if_pos h, ih]
      by_cases h2 : rtr l = []
      · rw [if_pos ⟨h2, h⟩, h2]
      · rw [if_neg (fun x => h2 x.1), List.dropWhile_cons, if_pos h]
    · rw [if_neg h, rtr_cons, if_neg (fun x => h x.2), List.dropWhile_cons, if_neg h]
theorem take_succ (l : List UInt8) (i : Nat) (h : i < l.length) : l.take (i + 1) = l.take i ++ [l[i]] := List.take_succ_eq_append_getElem h
theorem sub_snoc (l : List UInt8) (a b : Nat) (hab : a ≤ b) (h : b < l.length) : (l.drop a).take (b + 1 - a) = (l.drop a).take (b - a) ++ [l[b]] := by
  have h1 : b - a < (l.drop a).length := by rw [List.length_drop]; omega
  have h2 := List.take_succ_eq_append_getElem h1
  rw [List.getElem_drop] at h2
  rw [show b + 1 - a = b - a + 1 by omega, h2]
  have : a + (b - a) = b := by omega
  simp only [this]
theorem ext_toB (s : ByteArray) (a b : Nat) : s.extract a b = toB ((s.data.toList.drop a).take (b - a)) := by
  rw [← ext_l, of_list]
theorem rtrim_l1 (s : ByteArray) (hs : s.size ≤ 1000000000) (a : Nat) : ∀ (d k : Nat), a + d ≤ s.size → d < k → pantryref01_Trim.l1 k s (a : Int) ((a + d : Nat) : Int) = some (toB (rtr ((s.data.toList.drop a).take d))) := by
  intro d
  induction d with
  | zero =>
    intro k hd hk
    obtain ⟨k, rfl⟩ : ∃ j, k = j + 1 := ⟨k - 1, by omega⟩
    simp only [pantryref01_Trim.l1]
    rw [if_neg (by omega), if_pos (by omega), if_pos (by omega), if_pos (by omega), ext_toB]
    simp [rtr]
  | succ d ih =>
    intro k hd hk
    obtain ⟨k, rfl⟩ : ∃ j, k = j + 1 := ⟨k - 1, by omega⟩
    have hz := size_l s
    have hlt : a + d < s.data.toList.length := by omega
    simp only [pantryref01_Trim.l1]
    have hw : wrap64 (((a + (d + 1) : Nat) : Int) - 1) = ((a + d : Nat) : Int) := by
      rw [w64n (by omega) (by omega)]
      omega
    rw [hw, if_pos (by omega), if_pos (by omega), if_pos (by omega), bt_at2 s (a + d) hlt, blank_eval]
    simp only [Option.bind_some]
    have hsn := sub_snoc s.data.toList a (a + d) (by omega) hlt
    rw [show a + d + 1 - a = d + 1 by omega, show a + d - a = d by omega] at hsn
    rw [hsn, rtr_snoc]
    by_cases h : blk s.data.toList[a + d] = true
    · rw [if_pos h, if_pos h]
      exact ih k (by omega) (by omega)
    · rw [if_neg h, if_neg h, if_pos (by omega), if_pos (by omega), if_pos (by omega), ext_toB, Int.toNat_natCast, Int.toNat_natCast, show a + (d + 1) - a = d + 1 by omega, hsn]
theorem rtrim_l0 (s : ByteArray) (hs : s.size ≤ 1000000000) : ∀ (d a k : Nat), a + d = s.size → 2 * d + 3 < k → pantryref01_Trim.l0 k s (a : Int) (s.size : Int) = some (toB (rtr ((s.data.toList.drop a).dropWhile blk))) := by
  intro d
  induction d with
  | zero =>
    intro a k hd hk
    obtain ⟨k, rfl⟩ : ∃ j, k = j + 1 + 1 := ⟨k - 2, by omega⟩
    have hz := size_l s
    simp only [pantryref01_Trim.l0]
    rw [if_neg (by omega)]
    simp only [pantryref01_Trim.j1]
    have := rtrim_l1 s hs a 0 k (by omega) (by omega)
    rw [show a + 0 = s.size by omega] at this
    rw [this, List.drop_of_length_le (by omega)]
    rfl
  | succ d ih =>
    intro a k hd hk
    obtain ⟨k, rfl⟩ : ∃ j, k = j + 1 + 1 := ⟨k - 2, by omega⟩
    have hz := size_l s
    have hlt : a < s.data.toList.length := by omega
    simp only [pantryref01_Trim.l0]
    rw [if_pos (by omega), if_pos (by omega), if_pos (by omega), bt_at2 s a hlt, blank_eval]
    simp only [Option.bind_some]
    rw [List.drop_eq_getElem_cons hlt, List.dropWhile_cons]
    by_cases h : blk s.data.toList[a] = true
    · rw [if_pos h, if_pos h, w64n (by omega) (by omega)]
      have := ih (a + 1) (k + 1) (by omega) (by omega)
      rw [show ((a + 1 : Nat) : Int) = (a : Int) + 1 by omega] at this
      exact this
    · rw [if_neg h, if_neg h]
      simp only [pantryref01_Trim.j1]
      have := rtrim_l1 s hs a (d + 1) k (by omega) (by omega)
      rw [show a + (d + 1) = s.size by omega] at this
      rw [this, ← List.drop_eq_getElem_cons hlt, List.take_of_length_le (by rw [List.length_drop]; omega)]
theorem rtrim_eval (s : ByteArray) (hs : s.size ≤ 1000000000) (k : Nat) (hk : 2 * s.size + 3 < k) : pantryref01_Trim.f k s = some (toB (trimL s.data.toList)) := by
  unfold pantryref01_Trim.f
  have := rtrim_l0 s hs s.size 0 k (by omega) hk
  rw [List.drop_zero, trimL_eq] at this
  exact this
def quotL : Bool → Bool → List UInt8 → List Bool
  | _, _, [] => []
  | q, sk, c :: l => (q || c == 34) :: (if sk = true then quotL q false l else if q = true ∧ c = 92 then quotL q true l else if c = 34 then quotL (!q) sk l else quotL q sk l)
theorem quotL_len : ∀ (l : List UInt8) (q sk : Bool), (quotL q sk l).length = l.length := by
  intro l
  induction l with
  | nil => intro q sk; rfl
  | cons c l ih =>
    intro q sk
    unfold quotL
    rw [List.length_cons, List.length_cons]
    split
    · rw [ih]
    · split
      · rw [ih]
      · split <;> rw [ih]
theorem set_take {α : Type} (l : List α) (i : Nat) (v : α) (h : i < l.length) : (l.set i v).take (i + 1) = l.take i ++ [v] := by
  have h1 : i < (l.set i v).length := by simpa using h
  rw [List.take_succ_eq_append_getElem h1, List.take_set_of_le (Nat.le_refl _)]
  simp
theorem quoted_l0 (s : ByteArray) (hs : s.size ≤ 1000000000) : ∀ (d i : Nat) (out : List Bool) (q sk : Bool) (k : Nat), i + d = s.size → out.length = s.size → 3 * d < k →
    pantryref01_quoted.l0 k s out q sk (i : Int) = some (out.take i ++ quotL q sk (s.data.toList.drop i)) := by
  intro d
  induction d with
  | zero =>
    intro i out q sk k hi ho hk
    obtain ⟨k, rfl⟩ : ∃ j, k = j + 1 := ⟨k - 1, by omega⟩
    have hz := size_l s
    simp only [pantryref01_quoted.l0]
    rw [if_neg (by omega), List.drop_of_length_le (by omega), List.take_of_length_le (by omega)]
    simp [quotL]
  | succ d ih =>
    intro i out q sk k hi ho hk
    obtain ⟨k, rfl⟩ : ∃ j, k = j + 1 + 1 + 1 := ⟨k - 3, by omega⟩
    have hz := size_l s
    have hlt : i < s.data.toList.length := by omega
    have hbt := bt_at2 s i hlt
    have e34 : ((s.data.toList[i]).toNat : Int) = 34 ↔ s.data.toList[i] = 34 := u8_eq _ 34
    have e92 : ((s.data.toList[i]).toNat : Int) = 92 ↔ s.data.toList[i] = 92 := u8_eq _ 92
    rw [List.drop_eq_getElem_cons hlt]
    have hcont : ∀ (v q' sk' : Bool) (kk : Nat), 3 * d < kk → v = (q || s.data.toList[i] == 34) → (quotL q sk (s.data.toList[i] :: s.data.toList.drop (i + 1)) = (q || s.data.toList[i] == 34) :: quotL q' sk' (s.data.toList.drop (i + 1))) →
        pantryref01_quoted.l0 kk s (out.set i v) q' sk' ((i : Int) + 1) = some (out.take i ++ quotL q sk (s.data.toList[i] :: s.data.toList.drop (i + 1))) := by
      intro v q' sk' kk hkk hv he
      have := ih (i + 1) (out.set i v) q' sk' kk (by omega) (by simpa using ho) hkk
      rw [show ((i + 1 : Nat) : Int) = (i : Int) + 1 by omega] at this
      rw [this, he, set_take _ _ _ (by omega), hv]
      simp
    have key : ∀ v : Bool, v = (q || s.data.toList[i] == 34) → pantryref01_quoted.j1 (k + 1 + 1) s (out.set i v) q sk (i : Int) = some (out.take i ++ quotL q sk (s.data.toList[i] :: s.data.toList.drop (i + 1))) := by
      intro v hv
      simp only [pantryref01_quoted.j1]
      rw [hbt, w64n (by omega) (by omega)]
      cases sk with
      | true =>
        rw [if_pos rfl]
        exact hcont v q false _ (by omega) hv (by simp [quotL])
      | false =>
        rw [if_neg (by simp)]
        have j2 : ∀ b : Bool, b = decide (q = true ∧ s.data.toList[i] = 92) → pantryref01_quoted.j2 (k + 1) s (out.set i v) q false (i : Int) b = some (out.take i ++ quotL q false (s.data.toList[i] :: s.data.toList.drop (i + 1))) := by
          intro b hb
          simp only [pantryref01_quoted.j2]
          rw [hbt, w64n (by omega) (by omega)]
          by_cases h : q = true ∧ s.data.toList[i] = 92
          · rw [hb, if_pos (decide_eq_true h)]
            exact hcont v q true _ (by omega) hv (by simp only [quotL]; rw [if_neg (by simp), if_pos h])
          · rw [hb, if_neg (by rw [decide_eq_false h]; simp), if_pos (by omega), if_pos (by omega)]
            by_cases h2 : s.data.toList[i] = 34
            · rw [if_pos (e34.2 h2)]
              exact hcont v (!q) false _ (by omega) hv (by simp only [quotL]; rw [if_neg (by simp), if_neg h, if_pos h2])
            · rw [if_neg (fun x => h2 (e34.1 x))]
              exact hcont v q false _ (by omega) hv (by simp only [quotL]; rw [if_neg (by simp), if_neg h, if_neg h2])
        cases q with
        | true =>
          rw [if_pos rfl, if_pos (by omega), if_pos (by omega)]
          refine j2 _ ?_
          by_cases h : s.data.toList[i] = 92
          · rw [decide_eq_true ⟨rfl, h⟩]
            exact beq_iff_eq.2 (e92.2 h)
          · rw [decide_eq_false (fun x => h x.2)]
            exact beq_eq_false_iff_ne.2 (fun x => h (e92.1 x))
        | false =>
          rw [if_neg (by simp)]
          exact j2 _ (by simp)
    simp only [pantryref01_quoted.l0]
    rw [if_pos (by omega), Int.toNat_natCast, hbt]
    cases q with
    | true =>
      rw [if_pos rfl, if_pos (by omega), if_pos (by omega)]
      exact key _ (by simp)
    | false =>
      rw [if_neg (by simp), if_pos (by omega), if_pos (by omega)]
      refine key _ ?_
      rw [Bool.false_or]
      by_cases h : s.data.toList[i] = 34
      · rw [beq_iff_eq.2 h]
        exact beq_iff_eq.2 (e34.2 h)
      · rw [beq_eq_false_iff_ne.2 h]
        exact beq_eq_false_iff_ne.2 (fun x => h (e34.1 x))
theorem quoted_eval (s : ByteArray) (hs : s.size ≤ 1000000000) (k : Nat) (hk : 3 * s.size < k) : pantryref01_quoted.f k s = some (quotL false false s.data.toList) := by
  unfold pantryref01_quoted.f
  rw [if_pos (by omega), if_pos (by omega)]
  have := quoted_l0 s hs s.size 0 (List.replicate s.size false) false false k (by omega) (by simp) hk
  simpa using this
def addE (cur : List UInt8) : List (List UInt8) := if trimL cur = [] then [] else [trimL cur]
def refgo : List UInt8 → List UInt8 → List Bool → List (List UInt8)
  | cur, [], _ => addE cur
  | cur, _ :: _, [] => addE cur
  | cur, c :: l, f :: fs => if c = 44 ∧ f = false then addE cur ++ refgo [] l fs else refgo (cur ++ [c]) l fs
theorem rlist_l0 (s : ByteArray) (hs : s.size ≤ 1000000000) (qs : List Bool) (hq : qs.length = s.size) : ∀ (d last i : Nat) (out : List ByteArray) (k : Nat), i + d = s.size → last ≤ i → out.length ≤ i → 2 * d + 2 * s.size + 10 < k →
    pantryref01_List.l0 k s qs out (last : Int) (i : Int) = some (out ++ (refgo ((s.data.toList.drop last).take (i - last)) (s.data.toList.drop i) (qs.drop i)).map toB) := by
  have hz := size_l s
  have trim : ∀ (last i : Nat) (k : Nat), last ≤ i → i ≤ s.size → 2 * s.size + 3 < k → pantryref01_Trim.f k (s.extract last i) = some (toB (trimL ((s.data.toList.drop last).take (i - last)))) := by
    intro last i k h1 h2 hk
    rw [rtrim_eval _ (by rw [ByteArray.size_extract]; omega) k (by rw [ByteArray.size_extract]; omega), ext_l]
  have emp : ∀ l : List UInt8, (toB l).toList = [] ↔ l = [] := fun l => by rw [ByteArray.toList_eq, toB_list]
  intro d
  induction d with
  | zero =>
    intro last i out k hi hl ho hk
    obtain ⟨k, rfl⟩ : ∃ j, k = j + 1 + 1 + 1 := ⟨k - 3, by omega⟩
    simp only [pantryref01_List.l0]
    rw [if_pos (by omega), if_neg (by omega)]
    simp only [pantryref01_List.j1]
    rw [if_neg (by simp), if_pos (by omega), if_pos (by omega), if_pos (by omega), Int.toNat_natCast, Int.toNat_natCast, trim last i _ hl (by omega) (by omega), w64n (by omega) (by omega)]
    simp only [Option.bind_some]
    rw [List.drop_of_length_le (l := s.data.toList) (i := i) (by omega)]
    simp only [refgo, addE, pantryref01_List.l0]
    by_cases h : trimL ((s.data.toList.drop last).take (i - last)) = []
    · rw [if_pos ((emp _).2 h), if_neg (by omega), if_pos h]
      simp
    · rw [if_neg (fun x => h ((emp _).1 x)), if_pos (by omega), if_neg (by omega), if_neg h]
      simp
  | succ d ih =>
    intro last i out k hi hl ho hk
    obtain ⟨k, rfl⟩ : ∃ j, k = j + 1 + 1 := ⟨k - 2, by omega⟩
    have hlt : i < s.data.toList.length := by omega
    have hlq : i < qs.length := by omega
    have e44 : ((s.data.toList[i]).toNat : Int) = 44 ↔ s.data.toList[i] = 44 := u8_eq _ 44
    rw [List.drop_eq_getElem_cons hlt, List.drop_eq_getElem_cons hlq]
    simp only [refgo]
    have goon : ¬ (s.data.toList[i] = 44 ∧ qs[i] = false) → pantryref01_List.j1 (k + 1) s qs out (last : Int) (i : Int) true = some (out ++ (if s.data.toList[i] = 44 ∧ qs[i] = false then addE ((s.data.toList.drop last).take (i - last)) ++ refgo [] (s.data.toList.drop (i + 1)) (qs.drop (i + 1)) else refgo ((s.data.toList.drop last).take (i - last) ++ [s.data.toList[i]]) (s.data.toList.drop (i + 1)) (qs.drop (i + 1))).map toB) := by
      intro h
      rw [if_neg h, ← sub_snoc _ _ _ hl hlt]
      simp only [pantryref01_List.j1]
      rw [if_pos trivial, w64n (by omega) (by omega)]
      have := ih last (i + 1) out k (by omega) (by omega) (by omega) (by omega)
      rw [show ((i + 1 : Nat) : Int) = (i : Int) + 1 by omega] at this
      exact this
    simp only [pantryref01_List.l0]
    rw [if_pos (by omega), if_pos (by omega), if_pos (by omega), bt_at2 s i hlt]
    by_cases h1 : s.data.toList[i] = 44
    · rw [if_pos (e44.2 h1), if_pos (by omega)]
      have hr : rdOf false qs (i : Int) = qs[i] := by simp [rdOf, hlq]
      rw [hr]
      cases h2 : qs[i] with
      | true =>
        have := goon (by rw [h2]; simp)
        rw [h2] at this
        exact this
      | false =>
        rw [if_pos ⟨h1, rfl⟩]
        simp only [pantryref01_List.j1]
        rw [if_neg (by simp), if_pos (by omega), if_pos (by omega), if_pos (by omega), Int.toNat_natCast, Int.toNat_natCast, trim last i _ hl (by omega) (by omega), w64n (by omega) (by omega)]
        simp only [Option.bind_some]
        have nx : ∀ o : List ByteArray, o.length ≤ i + 1 → pantryref01_List.l0 k s qs o ((i : Int) + 1) ((i : Int) + 1) = some (o ++ (refgo [] (s.data.toList.drop (i + 1)) (qs.drop (i + 1))).map toB) := by
          intro o ho
          have := ih (i + 1) (i + 1) o k (by omega) (by omega) ho (by omega)
          rw [show ((i + 1 : Nat) : Int) = (i : Int) + 1 by omega, Nat.sub_self, List.take_zero] at this
          exact this
        unfold addE
        by_cases h : trimL ((s.data.toList.drop last).take (i - last)) = []
        · rw [if_pos ((emp _).2 h), if_pos h, nx _ (by omega)]
          simp
        · rw [if_neg (fun x => h ((emp _).1 x)), if_neg h, if_pos (by omega), nx _ (by simp; omega)]
          simp
    · rw [if_neg (fun x => h1 (e44.1 x))]
      exact goon (fun x => h1 x.1)
theorem refgo_end : ∀ (n : Nat) (l : List UInt8) (q : Bool) (cur : List UInt8), l.length ≤ n →
    refgo cur l (quotL q false l) = addE (cur ++ l.take (endL q l)) ++ (if endL q l < l.length then refgo [] (l.drop (endL q l + 1)) (quotL false false (l.drop (endL q l + 1))) else []) := by
  intro n
  induction n with
  | zero =>
    intro l q cur h
    obtain rfl := List.eq_nil_of_length_eq_zero (by omega : l.length = 0)
    simp [refgo, endL, quotL]
  | succ n ih =>
    intro l q cur h
    match l, h with
    | [], _ => simp [refgo, endL, quotL]
    | [c], _ =>
      by_cases h1 : c = 34
      · subst h1
        simp [refgo, endL, quotL]
      · by_cases h2 : q = true ∧ c = 92
        · obtain ⟨rfl, rfl⟩ := h2
          simp [refgo, endL, quotL]
        · by_cases h3 : q = false ∧ c = 44
          · obtain ⟨rfl, rfl⟩ := h3
            simp [refgo, endL, quotL]
          · have h4 : ¬ (c = 44 ∧ q = false) := fun x => h3 ⟨x.2, x.1⟩
            have e : endL q [c] = 1 := by simp only [endL]; rw [if_neg h1, if_neg h2, if_neg h3]
            rw [e]
            simp only [quotL, refgo]
            rw [if_neg (by intro x; exact h4 ⟨x.1, by cases q <;> simp_all⟩)]
            simp
    | c :: d :: l, h =>
      simp only [List.length_cons] at h
      by_cases h1 : c = 34
      · subst h1
        have e : endL q (34 :: d :: l) = 1 + endL (!q) (d :: l) := by simp [endL]
        have e2 : quotL q false (34 :: d :: l) = true :: quotL (!q) false (d :: l) := by simp [quotL]
        have e3 : ∀ f fs, refgo cur ((34 : UInt8) :: d :: l) (f :: fs) = refgo (cur ++ [34]) (d :: l) fs := fun f fs => by
          rw [refgo, if_neg (fun x => absurd x.1 (by decide))]
        rw [e, e2, e3, ih (d :: l) (!q) (cur ++ [34]) (by simp; omega)]
        rw [Nat.add_comm 1]
        simp only [List.take_succ_cons, List.drop_succ_cons, List.length_cons, Nat.add_lt_add_iff_right, List.append_assoc, List.singleton_append]
      · by_cases h2 : q = true ∧ c = 92
        · obtain ⟨rfl, rfl⟩ := h2
          have e : endL true (92 :: d :: l) = endL true l + 1 + 1 := by simp [endL]; omega
          have e2 : quotL true false (92 :: d :: l) = true :: true :: quotL true false l := by simp [quotL]
          have e3 : refgo cur ((92 : UInt8) :: d :: l) (true :: true :: quotL true false l) = refgo (cur ++ [92] ++ [d]) l (quotL true false l) := by
            rw [refgo, if_neg (fun x => absurd x.1 (by decide)), refgo, if_neg (by simp)]
          rw [e, e2, e3, ih l true (cur ++ [92] ++ [d]) (by omega)]
          rw [List.take_succ_cons, List.take_succ_cons, List.drop_succ_cons, List.drop_succ_cons, List.length_cons, List.length_cons]
          simp only [Nat.add_lt_add_iff_right, List.append_assoc, List.singleton_append, List.cons_append, List.nil_append]
        · by_cases h3 : q = false ∧ c = 44
          · obtain ⟨rfl, rfl⟩ := h3
            simp [refgo, endL, quotL]
          · have e : endL q (c :: d :: l) = 1 + endL q (d :: l) := by rw [endL, if_neg h1, if_neg h2, if_neg h3]
            have e2 : quotL q false (c :: d :: l) = (q || c == 34) :: quotL q false (d :: l) := by
              rw [quotL, if_neg (by simp), if_neg h2, if_neg h1]
            have e3 : ∀ fs, refgo cur (c :: d :: l) ((q || c == 34) :: fs) = refgo (cur ++ [c]) (d :: l) fs := fun fs => by
              rw [refgo, if_neg (fun x => h3 ⟨by cases q <;> simp_all, x.1⟩)]
            rw [e, e2, e3, ih (d :: l) q (cur ++ [c]) (by simp; omega)]
            rw [Nat.add_comm 1]
            simp only [List.take_succ_cons, List.drop_succ_cons, List.length_cons, Nat.add_lt_add_iff_right, List.append_assoc, List.singleton_append]
theorem listL_ref : ∀ (n : Nat) (l : List UInt8), l.length ≤ n → listL (n + 1) l = refgo [] l (quotL false false l) := by
  intro n
  induction n with
  | zero =>
    intro l h
    obtain rfl := List.eq_nil_of_length_eq_zero (by omega : l.length = 0)
    rfl
  | succ n ih =>
    intro l h
    rw [listL, refgo_end (n + 1) l false [] h]
    by_cases hl : l = []
    · subst hl
      rfl
    · rw [if_neg hl, List.nil_append]
      have hpos : 0 < l.length := List.length_pos_iff.2 hl
      have hd : (l.drop (endL false l + 1)).length ≤ n := by rw [List.length_drop]; omega
      rw [ih _ hd]
      congr 1
      by_cases hc : endL false l < l.length
      · rw [if_pos hc]
      · rw [if_neg hc, List.drop_of_length_le (by omega)]
        rfl
theorem rlist_eval (s : ByteArray) (hs : s.size ≤ 1000000) (k : Nat) (hk : 4000100 < k) : pantryref01_List.f k s = some ((listL (s.size + 1) s.data.toList).map toB) := by
  unfold pantryref01_List.f
  rw [quoted_eval s (by omega) k (by omega)]
  simp only [Option.bind_some]
  have hz := size_l s
  have := rlist_l0 s (by omega) (quotL false false s.data.toList) (by rw [quotL_len]; omega) s.size 0 0 [] k (by omega) (by omega) (by simp) (by omega)
  rw [show ((0 : Nat) : Int) = 0 from rfl] at this
  rw [this, listL_ref _ _ (by omega)]
  simp

theorem SmallF_take {l : List S49} (h : SmallF l) (i : Nat) : SmallF (l.take i) := ⟨by rw [List.length_take]; have := h.1; omega, fun f hf => h.2 f (List.mem_of_mem_take hf)⟩
theorem rget_l0 (n : ByteArray) (hn : n.size ≤ 1000) (l : List S49) (h : SmallF l) : ∀ (d i k : Nat), i + d = l.length → d + 1001 < k →
    pantryref03_Get.l0 k (l.map conv) n (getB n (l.take i)) ((allV n (l.take i)).length : Int) (i : Int) = some (getB n l, ((allV n l).length : Int)) := by
  intro d
  induction d with
  | zero =>
    intro i k hi hk
    obtain ⟨k, rfl⟩ : ∃ j, k = j + 1 := ⟨k - 1, by omega⟩
    simp only [pantryref03_Get.l0]
    rw [if_neg (by rw [List.length_map]; omega), List.take_of_length_le (by omega)]
  | succ d ih =>
    intro i k hi hk
    obtain ⟨k, rfl⟩ : ∃ j, k = j + 1 := ⟨k - 1, by omega⟩
    have hlt : i < l.length := by omega
    have hll := h.1
    have hx := h.2 _ (List.getElem_mem hlt)
    have hgs := getB_size n _ (SmallF_take h i)
    have hal : (allV n (l.take i)).length ≤ i := by
      unfold allV
      rw [List.length_map]
      refine Nat.le_trans (List.length_filter_le _ _) ?_
      rw [List.length_take]
      omega
    simp only [pantryref03_Get.l0]
    rw [if_pos (by rw [List.length_map]; omega), if_pos (by omega), rd36 _ i (by rw [List.length_map]; omega), List.getElem_map]
    rw [is_eval _ _ n (by simp only [conv]; omega) (by omega) k (by simp only [conv]; omega) (by omega), w64n (x := (i : Int) + 1) (by omega) (by omega), w64n (x := ((allV n (l.take i)).length : Int) + 1) (by omega) (by omega)]
    simp only [Option.bind_some, conv]
    have := ih (i + 1) k (by omega) (by omega)
    rw [show ((i + 1 : Nat) : Int) = (i : Int) + 1 by omega, List.take_succ_eq_append_getElem hlt, allV_app] at this
    cases hs : sameB n l[i].f0 with
    | false =>
      have e : allV n [l[i]] = [] := by
        unfold allV
        rw [List.filter_cons_of_neg (by simp [isOf, hs])]
        rfl
      have e2 : getB n (l.take i ++ [l[i]]) = getB n (l.take i) := by
        unfold getB
        rw [allV_app, e, List.append_nil]
      rw [e, List.append_nil, e2] at this
      rw [if_neg (by simp)]
      exact this
    | true =>
      have e : allV n [l[i]] = [l[i].f1] := by
        unfold allV
        rw [List.filter_cons_of_pos (by simp [isOf, hs])]
        rfl
      rw [e, List.length_append, List.length_singleton, show (((allV n (l.take i)).length + 1 : Nat) : Int) = ((allV n (l.take i)).length : Int) + 1 by omega] at this
      have s2 : (⟨#[44, 32]⟩ : ByteArray).size = 2 := rfl
      have one : joinB [l[i].f1] commaB = l[i].f1.data.toList := by simp [joinB, Lib.join, List.intercalate]
      rw [if_pos rfl]
      by_cases hc : ((allV n (l.take i)).length : Int) > 0
      · rw [if_pos hc, if_pos (by omega)]
        refine (if_pos (by rw [ByteArray.size_append]; omega)).trans ?_
        have e2 : getB n (l.take i ++ [l[i]]) = getB n (l.take i) ++ ⟨#[44, 32]⟩ ++ l[i].f1 := by
          have : (getB n (l.take i ++ [l[i]])).data.toList = (getB n (l.take i) ++ ⟨#[44, 32]⟩ ++ l[i].f1).data.toList := by
            rw [← ByteArray.toList_eq, getB_list, allV_app, e, joinB_app _ _ (by intro h; rw [h] at hc; simp at hc) (by simp), one]
            have r0 := getB_list n (l.take i)
            rw [ByteArray.toList_eq] at r0
            rw [← r0]
            simp
          rw [← of_list (getB n (l.take i ++ [l[i]])), this, of_list]
        rw [e2] at this
        exact this
      · rw [if_neg hc]
        refine (if_pos (by omega)).trans ?_
        have h0 : allV n (l.take i) = [] := List.eq_nil_of_length_eq_zero (by omega)
        have g0 : getB n (l.take i) = ⟨#[]⟩ := by
          unfold getB
          rw [h0]
          rfl
        have e2 : getB n (l.take i ++ [l[i]]) = getB n (l.take i) ++ l[i].f1 := by
          have : (getB n (l.take i ++ [l[i]])).data.toList = (getB n (l.take i) ++ l[i].f1).data.toList := by
            rw [← ByteArray.toList_eq, getB_list, allV_app, e, h0, List.nil_append, one, g0]
            simp
          rw [← of_list (getB n (l.take i ++ [l[i]])), this, of_list]
        rw [e2] at this
        exact this
theorem rget_eval (n : ByteArray) (l : List S49) (hn : n.size ≤ 1000) (h : SmallF l) (k : Nat) (hk : 2000 < k) : pantryref03_Get.f k (l.map conv) n = some (getB n l, ((allV n l).length : Int)) := by
  unfold pantryref03_Get.f
  exact rget_l0 n hn l h l.length 0 k (by omega) (by have := h.1; omega)
theorem relems_eval (n : ByteArray) (l : List S49) (hn : n.size ≤ 1000) (h : SmallF l) (k : Nat) (hk : 4000100 < k) : pantryref03_Elements.f k (l.map conv) n = some (elemsB n l) := by
  unfold pantryref03_Elements.f
  rw [rget_eval n l hn h k (by omega)]
  simp only [Option.bind_some]
  have := getB_size n l h
  rw [rlist_eval _ (by omega) k hk]
  rfl

/-! ## Strip -/
theorem isOf_append (A B : List ByteArray) (f : S49) : isOf (A ++ B) f = (isOf A f || isOf B f) := by unfold isOf; rw [List.any_append]
theorem isOf_low (n : ByteArray) : isOf [lowB n] = isOf [n] := by
  funext o
  unfold isOf
  simp only [List.any_cons, List.any_nil, Bool.or_false]
  exact sameB_low n o.f0
theorem isOf_map_low (ns : List ByteArray) (f : S49) : isOf (ns.map lowB) f = isOf ns f := by
  unfold isOf
  rw [List.any_map]
  congr 1
  funext n
  exact sameB_low n f.f0
theorem wout_congr {A B : List ByteArray} (h : ∀ f, isOf A f = isOf B f) (l : List S49) : wout A l = wout B l := by
  unfold wout
  apply List.filter_congr
  intro x _
  rw [h]
theorem wout_len (ns : List ByteArray) (l : List S49) : (wout ns l).length ≤ l.length := List.length_filter_le _ _
theorem wout_mem {ns : List ByteArray} {l : List S49} {x : S49} (h : x ∈ wout ns l) : x ∈ l := (List.mem_filter.1 h).1
theorem wout_not {ns : List ByteArray} {l : List S49} {x : S49} (h : x ∈ wout ns l) : isOf ns x = false := by
  have := (List.mem_filter.1 h).2
  simpa using this
theorem wout_all {ns : List ByteArray} {l : List S49} (h : ∀ x ∈ l, isOf ns x = false) : wout ns l = l := List.filter_eq_self.2 fun x hx => by rw [h x hx]; rfl
theorem wout_wout (A B : List ByteArray) (l : List S49) : wout B (wout A l) = wout (A ++ B) l := by
  unfold wout
  rw [List.filter_filter]
  apply List.filter_congr
  intro x _
  rw [isOf_append, Bool.not_or, Bool.and_comm]
theorem SmallF_wout {l : List S49} (h : SmallF l) (ns : List ByteArray) : SmallF (wout ns l) := ⟨by have := wout_len ns l; have := h.1; omega, fun f hf => h.2 f (wout_mem hf)⟩

theorem rwout_conv (n : ByteArray) (l : List S49) : rwout n (l.map conv) = (l.filter fun o => !sameB n o.f0).map conv := by
  unfold rwout
  rw [List.filter_map]
  rfl
theorem wout_snoc (ns : List ByteArray) (n : ByteArray) (l : List S49) : (wout ns l).filter (fun o => !sameB n o.f0) = wout (ns ++ [n]) l := by
  unfold wout
  rw [List.filter_filter]
  apply List.filter_congr
  intro x _
  unfold isOf
  simp only [List.any_append, List.any_cons, List.any_nil, Bool.or_false, Bool.not_or]
  exact Bool.and_comm _ _
theorem rwone (n : ByteArray) (l : List S49) : rwout n (l.map conv) = (wout [n] l).map conv := by
  rw [rwout_conv]
  congr 1
  unfold wout
  apply List.filter_congr
  intro x _
  simp [isOf]
theorem rwone_f (n : ByteArray) (l : List S49) (hn : n.size ≤ 1000000) (h : SmallF l) (k : Nat) (hk : 1002002 < k) : pantryref03_Without.f k (l.map conv) n = some ((wout [n] l).map conv) := by
  rw [rwout_f n (l.map conv) hn (fun x hx => by
    obtain ⟨f, hf, rfl⟩ := List.mem_map.1 hx
    have := (h.2 f hf).1
    simp only [conv]
    omega) (by rw [List.length_map]; have := h.1; omega) k hk, rwone]
theorem rwithout_l0 (l : List S49) (h : SmallF l) (ns : List ByteArray) (hn : ∀ n ∈ ns, n.size ≤ 1000000) (hns : ns.length ≤ 1000000) :
    ∀ (d i k : Nat), i + d = ns.length → d + 2000001 < k → pantryref13_without.l0 k ((wout (ns.take i) l).map conv) ns (i : Int) = some ((wout ns l).map conv) := by
  intro d
  induction d with
  | zero =>
    intro i k hi hk
    obtain ⟨k, rfl⟩ : ∃ j, k = j + 1 := ⟨k - 1, by omega⟩
    simp only [pantryref13_without.l0]
    rw [if_neg (by omega), List.take_of_length_le (by omega)]
  | succ d ih =>
    intro i k hi hk
    obtain ⟨k, rfl⟩ : ∃ j, k = j + 1 := ⟨k - 1, by omega⟩
    have hlt : i < ns.length := by omega
    simp only [pantryref13_without.l0]
    rw [if_pos (by omega), if_pos (by omega), rdB ns i hlt, rwone_f _ _ (hn _ (List.getElem_mem hlt)) (SmallF_wout h _) k (by omega), w64n (by omega) (by omega)]
    simp only [Option.bind_some]
    rw [wout_wout]
    have := ih (i + 1) k (by omega) (by omega)
    rw [show ((i + 1 : Nat) : Int) = (i : Int) + 1 by omega, List.take_succ_eq_append_getElem hlt] at this
    exact this
theorem rwithout_eval (l : List S49) (h : SmallF l) (ns : List ByteArray) (hn : ∀ n ∈ ns, n.size ≤ 1000000) (hns : ns.length ≤ 1000000) (k : Nat) (hk : 3100000 < k) : pantryref13_without.f k (l.map conv) ns = some ((wout ns l).map conv) := by
  unfold pantryref13_without.f
  have := rwithout_l0 l h ns hn hns ns.length 0 k (by omega) (by omega)
  have hw : wout [] l = l := wout_all (fun x _ => rfl)
  rw [List.take_zero, hw] at this
  exact this

def connU : ByteArray := ⟨#[67, 111, 110, 110, 101, 99, 116, 105, 111, 110]⟩
def connL : ByteArray := ⟨#[99, 111, 110, 110, 101, 99, 116, 105, 111, 110]⟩
def fixU : List ByteArray := [⟨#[67, 111, 110, 110, 101, 99, 116, 105, 111, 110]⟩, ⟨#[75, 101, 101, 112, 45, 65, 108, 105, 118, 101]⟩, ⟨#[80, 114, 111, 120, 121, 45, 65, 117, 116, 104, 101, 110, 116, 105, 99, 97, 116, 101]⟩, ⟨#[80, 114, 111, 120, 121, 45, 65, 117, 116, 104, 111, 114, 105, 122, 97, 116, 105, 111, 110]⟩, ⟨#[80, 114, 111, 120, 121, 45, 67, 111, 110, 110, 101, 99, 116, 105, 111, 110]⟩, ⟨#[84, 69]⟩, ⟨#[84, 114, 97, 105, 108, 101, 114]⟩, ⟨#[84, 114, 97, 110, 115, 102, 101, 114, 45, 69, 110, 99, 111, 100, 105, 110, 103]⟩, ⟨#[85, 112, 103, 114, 97, 100, 101]⟩, ⟨#[67, 111, 110, 116, 101, 110, 116, 45, 76, 101, 110, 103, 116, 104]⟩]
def fixL : List ByteArray := [⟨#[99, 111, 110, 110, 101, 99, 116, 105, 111, 110]⟩, ⟨#[107, 101, 101, 112, 45, 97, 108, 105, 118, 101]⟩, ⟨#[112, 114, 111, 120, 121, 45, 97, 117, 116, 104, 101, 110, 116, 105, 99, 97, 116, 101]⟩, ⟨#[112, 114, 111, 120, 121, 45, 97, 117, 116, 104, 111, 114, 105, 122, 97, 116, 105, 111, 110]⟩, ⟨#[112, 114, 111, 120, 121, 45, 99, 111, 110, 110, 101, 99, 116, 105, 111, 110]⟩, ⟨#[116, 101]⟩, ⟨#[116, 114, 97, 105, 108, 101, 114]⟩, ⟨#[116, 114, 97, 110, 115, 102, 101, 114, 45, 101, 110, 99, 111, 100, 105, 110, 103]⟩, ⟨#[117, 112, 103, 114, 97, 100, 101]⟩, ⟨#[99, 111, 110, 116, 101, 110, 116, 45, 108, 101, 110, 103, 116, 104]⟩]
def viaU : ByteArray := ⟨#[86, 105, 97]⟩
def viaL : ByteArray := ⟨#[118, 105, 97]⟩
def nameB : ByteArray := ⟨#[49, 46, 49, 32, 112, 97, 110, 116, 114, 121]⟩
theorem fix_sizes : ∀ n ∈ fixU, n.size ≤ 100 := by decide +kernel
def stripN (l : List S49) : List ByteArray := elemsB connU l ++ fixU
def stripV (l : List S49) : List S49 := wout (stripN l) l
theorem stripN_ok (l : List S49) (h : SmallF l) : (stripN l).length ≤ 900010 ∧ ∀ n ∈ stripN l, n.size ≤ 640000 := by
  obtain ⟨e1, e2⟩ := elems_ok connU l h
  unfold stripN
  have : fixU.length = 10 := rfl
  refine ⟨by rw [List.length_append]; omega, fun n hn => ?_⟩
  rcases List.mem_append.1 hn with hn | hn
  · exact e2 n hn
  · have := fix_sizes n hn
    omega
theorem strip_eval (l : List S49) (h : SmallF l) (k : Nat) (hk : 3000100 < k) : pass_Strip.f k l = some (stripV l) := by
  have e : pass_Strip.f k l = ((field_List_Elements.f k l connU).bind fun t => if t.length + 10 < 8796093022208 then ((field_List_Without.f k l (t ++ fixU)).bind fun x => some x) else none) := rfl
  rw [e, elems_eval connU l (by decide) h k hk]
  simp only [Option.bind_some]
  obtain ⟨e1, e2⟩ := elems_ok connU l h
  obtain ⟨n1, n2⟩ := stripN_ok l h
  have hl := h.1
  rw [if_pos (by omega)]
  have w := wout_f (stripN l) l (by omega) (fun x hx => by have := n2 x hx; omega) (fun x hx => by have := (h.2 x hx).1; omega) (by omega) k (by omega)
  have w2 : field_List_Without.f k l (elemsB connU l ++ fixU) = some (stripV l) := w
  rw [w2]
  rfl
theorem SmallF_strip {l : List S49} (h : SmallF l) : SmallF (stripV l) := SmallF_wout h _
/-- A name that goes no further isn't there. -/
theorem strip_no (l : List S49) (n m : ByteArray) (hm : m ∈ stripN l) (hs : lowB n = lowB m) : allV n (stripV l) = [] := by
  unfold allV
  rw [List.map_eq_nil_iff, List.filter_eq_nil_iff]
  intro f hf
  have h1 := wout_not hf
  intro hc
  rw [← isOf_low, hs, isOf_low] at hc
  have hc2 : sameB m f.f0 = true := by simpa [isOf] using hc
  have : isOf (stripN l) f = true := List.any_eq_true.2 ⟨m, hm, hc2⟩
  rw [this] at h1
  cases h1
theorem conn_in (l : List S49) : connU ∈ stripN l := List.mem_append.2 (.inr (List.mem_cons_self ..))
theorem strip_strip (l : List S49) : stripV (stripV l) = stripV l := by
  have h0 : allV connU (stripV l) = [] := strip_no l connU connU (conn_in l) rfl
  have h1 : elemsB connU (stripV l) = [] := by
    unfold elemsB getB
    rw [h0]
    rfl
  have h2 : stripV (stripV l) = wout fixU (stripV l) := by
    have : stripN (stripV l) = fixU := by unfold stripN; rw [h1, List.nil_append]
    show wout (stripN (stripV l)) (stripV l) = _
    rw [this]
  rw [h2]
  refine wout_all (fun x hx => ?_)
  have := wout_not hx
  unfold stripN at this
  rw [isOf_append, Bool.or_eq_false_iff] at this
  exact this.2
def markV (l : List S49) : ByteArray := (if 0 < (allV viaU l).length then getB viaU l ++ commaB else getB viaU l) ++ nameB
def onwardV (l : List S49) : List S49 := wout [viaU] (stripV l) ++ [⟨viaU, markV l⟩]
theorem mark_size (l : List S49) (h : SmallF l) : (markV l).size ≤ 640012 := by
  have := getB_size viaU l h
  have s1 : commaB.size = 2 := rfl
  have s2 : nameB.size = 10 := rfl
  unfold markV
  rw [ByteArray.size_append]
  split
  · rw [ByteArray.size_append]; omega
  · omega
theorem onward_eval (l : List S49) (h : SmallF l) (k : Nat) (hk : 3000100 < k) : pass_Onward.f k l = some (onwardV l) := by
  have e : pass_Onward.f k l = ((field_List_Get.f k l viaU).bind fun bt => (if bt.2 = true then (if bt.1.size + 2 ≤ 9223372036854775807 then ((pass_Strip.f k l).bind fun t => ((field_List_Without.f k t [viaU]).bind fun u => (if (bt.1 ++ commaB).size + 10 ≤ 9223372036854775807 then (if u.length < 4398046511104 then some (u ++ [⟨viaU, (bt.1 ++ commaB) ++ nameB⟩]) else none) else none))) else none) else ((pass_Strip.f k l).bind fun t => ((field_List_Without.f k t [viaU]).bind fun u => (if bt.1.size + 10 ≤ 9223372036854775807 then (if u.length < 4398046511104 then some (u ++ [⟨viaU, bt.1 ++ nameB⟩]) else none) else none))))) := rfl
  have hl := h.1
  have g : field_List_Get.f k l viaU = some (getB viaU l, decide (0 < (allV viaU l).length)) := get_eval viaU l (by decide) h.2 (by omega) k (by omega)
  have hs := SmallF_strip h
  have hsl := hs.1
  have w : field_List_Without.f k (stripV l) [viaU] = some (wout [viaU] (stripV l)) := wout_f [viaU] (stripV l) (by decide) (by decide) (fun x hx => by have := (hs.2 x hx).1; omega) (by omega) k (by omega)
  have hw := wout_len [viaU] (stripV l)
  have hg := getB_size viaU l h
  have s1 : commaB.size = 2 := rfl
  rw [e, g]
  simp only [Option.bind_some]
  rw [strip_eval l h k hk]
  simp only [Option.bind_some]
  rw [w]
  simp only [Option.bind_some]
  unfold onwardV markV
  by_cases hc : 0 < (allV viaU l).length
  · rw [if_pos (decide_eq_true hc), if_pos (by omega), if_pos (by rw [ByteArray.size_append]; omega), if_pos (by omega), if_pos hc]
  · rw [if_neg (by rw [decide_eq_false hc]; simp), if_pos (by omega), if_pos (by omega), if_neg hc]

/-! ## Texts of elements, in parts -/
theorem endF_cons {c : UInt8} (l : List UInt8) (h1 : c ≠ 34) (h2 : c ≠ 44) : endL false (c :: l) = 1 + endL false l := by
  cases l with
  | nil => simp [endL, h1, h2]
  | cons d l => simp [endL, h1, h2]
theorem endF_comma (l : List UInt8) : endL false (44 :: l) = 0 := by cases l <;> simp [endL]
theorem endF_quote (l : List UInt8) : endL false (34 :: l) = 1 + endL true l := by cases l <;> simp [endL]
theorem endT_quote (l : List UInt8) : endL true (34 :: l) = 1 + endL false l := by cases l <;> simp [endL]
theorem endT_cons {c : UInt8} (l : List UInt8) (h1 : c ≠ 34) (h2 : c ≠ 92) : endL true (c :: l) = 1 + endL true l := by
  cases l with
  | nil => simp [endL, h1, h2]
  | cons d l => simp [endL, h1, h2]
theorem endF_app : ∀ (a r : List UInt8), (∀ c ∈ a, c ≠ 34 ∧ c ≠ 44) → endL false (a ++ r) = a.length + endL false r := by
  intro a
  induction a with
  | nil => intro r _; simp
  | cons c a ih =>
    intro r h
    obtain ⟨h1, h2⟩ := h c (by simp)
    rw [List.cons_append, endF_cons _ h1 h2, ih r (fun x hx => h x (by simp [hx])), List.length_cons]
    omega
theorem endT_app : ∀ (a r : List UInt8), (∀ c ∈ a, c ≠ 34 ∧ c ≠ 92) → endL true (a ++ r) = a.length + endL true r := by
  intro a
  induction a with
  | nil => intro r _; simp
  | cons c a ih =>
    intro r h
    obtain ⟨h1, h2⟩ := h c (by simp)
    rw [List.cons_append, endT_cons _ h1 h2, ih r (fun x hx => h x (by simp [hx])), List.length_cons]
    omega
def keepL (l : List UInt8) : List (List UInt8) := if trimL l = [] then [] else [trimL l]
theorem listL_nil (k : Nat) : listL k [] = [] := by cases k <;> simp [listL]
theorem trimL_nil : trimL [] = [] := rfl
theorem listL_comma (k : Nat) (a r : List UInt8) (h : endL false (a ++ 44 :: r) = a.length) : listL (k + 1) (a ++ 44 :: r) = keepL a ++ listL k r := by
  rw [listL, if_neg (by simp), h]
  have e1 : (a ++ 44 :: r).take a.length = a := by simp
  have e2 : (a ++ 44 :: r).drop (a.length + 1) = r := by simp
  rw [e1, e2]
  rfl
theorem endF_plain (a r : List UInt8) (h : ∀ c ∈ a, c ≠ 34 ∧ c ≠ 44) : endL false (a ++ 44 :: r) = a.length := by rw [endF_app a _ h, endF_comma]; rfl
theorem listL_last (k : Nat) (a : List UInt8) (h : endL false a = a.length) : listL (k + 1) a = keepL a := by
  rw [listL]
  by_cases h0 : a = []
  · rw [if_pos h0, h0]; simp [keepL, trimL_nil]
  · rw [if_neg h0, h, List.take_length, List.drop_of_length_le (by omega), listL_nil, List.append_nil]
    rfl
theorem trimL_at (b l m m' : List UInt8) (c d : UInt8) (hb : ∀ x ∈ b, [32, 9].contains x = true) (h1 : l = c :: m) (h2 : l = m' ++ [d]) (hc : [32, 9].contains c = false) (hd : [32, 9].contains d = false) : trimL (b ++ l) = l := by
  unfold trimL Lib.trimS Lib.trimRightS Lib.trimLeftS
  have e1 : (b ++ l).reverse = d :: (b ++ m').reverse := by rw [h2]; simp
  rw [e1, List.dropWhile_cons_of_neg (by simpa using hd)]
  have e2 : (d :: (b ++ m').reverse).reverse = b ++ l := by rw [← e1, List.reverse_reverse]
  rw [e2, List.dropWhile_append_of_pos hb, h1, List.dropWhile_cons_of_neg (by simpa using hc)]
theorem keepL_at (b l m m' : List UInt8) (c d : UInt8) (hb : ∀ x ∈ b, [32, 9].contains x = true) (h1 : l = c :: m) (h2 : l = m' ++ [d]) (hc : [32, 9].contains c = false) (hd : [32, 9].contains d = false) : keepL (b ++ l) = [l] := by
  unfold keepL
  rw [trimL_at b l m m' c d hb h1 h2 hc hd, if_neg (by rw [h1]; simp)]

/-! ## Days, months and years, as numbers -/
theorem w64 {x : Int} (h0 : -9223372036854775808 ≤ x) (h1 : x ≤ 9223372036854775807) : wrap64 x = x := by unfold wrap64; omega
theorem tdiv_pos {a b : Int} (h : 0 ≤ a) : Int.tdiv a b = a / b := Int.tdiv_eq_ediv_of_nonneg h
theorem tmod_pos {a b : Int} (h : 0 ≤ a) : Int.tmod a b = a % b := Int.tmod_eq_emod_of_nonneg h
theorem tmod_zero (a b : Int) : Int.tmod a b = 0 ↔ a % b = 0 := by rw [← Int.dvd_iff_tmod_eq_zero, ← Int.dvd_iff_emod_eq_zero]
def leapP (y : Int) : Prop := (y % 4 = 0 ∧ y % 100 ≠ 0) ∨ y % 400 = 0
instance (y : Int) : Decidable (leapP y) := by unfold leapP; infer_instance
def lp (y : Int) : Int := if leapP y then 1 else 0
def mlen (y m : Int) : Int := if m = 2 then 28 + lp y else if m = 4 ∨ m = 6 ∨ m = 9 ∨ m = 11 then 30 else 31
def daysI (y m : Int) : Int := if y < 1970 ∨ 9999 < y ∨ m < 1 ∨ 12 < m then 0 else mlen y m
def ybef (y : Int) : Int := (y - 1) * 365 + (y - 1) / 4 - (y - 1) / 100 + (y - 1) / 400 - 719162
def mbef (y m : Int) : Int :=
  if m = 1 then 0 else if m = 2 then 31 else (if m = 3 then 59 else if m = 4 then 90 else if m = 5 then 120 else if m = 6 then 151 else if m = 7 then 181 else if m = 8 then 212 else if m = 9 then 243 else if m = 10 then 273 else if m = 11 then 304 else if m = 12 then 334 else 365) + lp y
theorem lp_01 (y : Int) : lp y = 0 ∨ lp y = 1 := by unfold lp; split <;> simp
theorem ybef_succ (y : Int) : ybef (y + 1) = ybef y + 365 + lp y := by
  unfold ybef lp
  by_cases h : leapP y
  · rw [if_pos h]
    unfold leapP at h
    omega
  · rw [if_neg h]
    unfold leapP at h
    omega
theorem mbef_succ (y m : Int) (h1 : 1 ≤ m) (h2 : m ≤ 12) : mbef y (m + 1) = mbef y m + mlen y m := by
  have hm : m = 1 ∨ m = 2 ∨ m = 3 ∨ m = 4 ∨ m = 5 ∨ m = 6 ∨ m = 7 ∨ m = 8 ∨ m = 9 ∨ m = 10 ∨ m = 11 ∨ m = 12 := by omega
  have := lp_01 y
  rcases hm with rfl | rfl | rfl | rfl | rfl | rfl | rfl | rfl | rfl | rfl | rfl | rfl <;> simp [mbef, mlen] <;> omega
theorem mbef_13 (y : Int) : mbef y 13 = 365 + lp y := by simp [mbef]
theorem mbef_1 (y : Int) : mbef y 1 = 0 := by simp [mbef]
theorem mlen_bd (y m : Int) : 28 ≤ mlen y m ∧ mlen y m ≤ 31 := by
  have := lp_01 y
  unfold mlen
  split
  · omega
  · split <;> omega
theorem mbef_bd (y m : Int) (h1 : 1 ≤ m) (h2 : m ≤ 13) : 0 ≤ mbef y m ∧ mbef y m ≤ 366 := by
  have hm : m = 1 ∨ m = 2 ∨ m = 3 ∨ m = 4 ∨ m = 5 ∨ m = 6 ∨ m = 7 ∨ m = 8 ∨ m = 9 ∨ m = 10 ∨ m = 11 ∨ m = 12 ∨ m = 13 := by omega
  have := lp_01 y
  rcases hm with rfl | rfl | rfl | rfl | rfl | rfl | rfl | rfl | rfl | rfl | rfl | rfl | rfl <;> simp [mbef] <;> omega
theorem ybef_mono {a b : Int} (h : a ≤ b) : ybef a ≤ ybef b := by unfold ybef; omega
theorem mbef_mono (y : Int) {a b : Int} (h1 : 1 ≤ a) (h : a ≤ b) (h2 : b ≤ 13) : mbef y a ≤ mbef y b := by
  have ha : a = 1 ∨ a = 2 ∨ a = 3 ∨ a = 4 ∨ a = 5 ∨ a = 6 ∨ a = 7 ∨ a = 8 ∨ a = 9 ∨ a = 10 ∨ a = 11 ∨ a = 12 ∨ a = 13 := by omega
  have hb : b = 1 ∨ b = 2 ∨ b = 3 ∨ b = 4 ∨ b = 5 ∨ b = 6 ∨ b = 7 ∨ b = 8 ∨ b = 9 ∨ b = 10 ∨ b = 11 ∨ b = 12 ∨ b = 13 := by omega
  have := lp_01 y
  rcases ha with rfl | rfl | rfl | rfl | rfl | rfl | rfl | rfl | rfl | rfl | rfl | rfl | rfl <;> rcases hb with rfl | rfl | rfl | rfl | rfl | rfl | rfl | rfl | rfl | rfl | rfl | rfl | rfl <;> first | omega | (simp [mbef] <;> omega)
/-- The time t is the day d of the month m of the year y, r seconds of it having passed. -/
structure IsDate (t y m d r : Int) : Prop where
  y0 : 1970 ≤ y
  y1 : y ≤ 9999
  m0 : 1 ≤ m
  m1 : m ≤ 12
  d0 : 1 ≤ d
  d1 : d ≤ mlen y m
  r0 : 0 ≤ r
  r1 : r < 86400
  eq : t = (ybef y + mbef y m + d - 1) * 86400 + r
theorem IsDate.range {t y m d r : Int} (h : IsDate t y m d r) : 0 ≤ t ∧ t ≤ 253402300799 := by
  have h1 := mbef_bd y m h.m0 (by have := h.m1; omega)
  have h2 := mbef_succ y m h.m0 h.m1
  have h3 := mbef_mono y (a := m + 1) (b := 13) (by have := h.m0; omega) (by have := h.m1; omega) (by omega)
  have h4 := ybef_succ y
  have h5 := ybef_mono (a := 1970) (b := y) h.y0
  have h6 := ybef_mono (a := y + 1) (b := 10000) (by have := h.y1; omega)
  have h7 : ybef 1970 = 0 := by decide
  have h8 : ybef 10000 = 2932897 := by decide
  have h9 := mbef_13 y
  have := h.d0; have := h.d1; have := h.r0; have := h.r1; have := h.eq
  omega
theorem IsDate.unique {t y m d r y' m' d' r' : Int} (h : IsDate t y m d r) (h' : IsDate t y' m' d' r') : y = y' ∧ m = m' ∧ d = d' ∧ r = r' := by
  have key : ∀ {y m d r}, IsDate t y m d r → ybef y ≤ t / 86400 ∧ t / 86400 < ybef (y + 1) ∧ mbef y m ≤ t / 86400 - ybef y ∧ t / 86400 - ybef y < mbef y (m + 1) ∧ d = t / 86400 - ybef y - mbef y m + 1 ∧ r = t % 86400 := by
    intro y m d r h
    have h1 := mbef_bd y m h.m0 (by have := h.m1; omega)
    have h2 := mbef_succ y m h.m0 h.m1
    have h3 := mbef_mono y (a := m + 1) (b := 13) (by have := h.m0; omega) (by have := h.m1; omega) (by omega)
    have h4 := ybef_succ y
    have h9 := mbef_13 y
    have := h.d0; have := h.d1; have := h.r0; have := h.r1; have := h.eq
    omega
  obtain ⟨a1, a2, a3, a4, a5, a6⟩ := key h
  obtain ⟨b1, b2, b3, b4, b5, b6⟩ := key h'
  have hy : y = y' := by
    rcases Int.lt_trichotomy y y' with hl | he | hg
    · have := ybef_mono (a := y + 1) (b := y') (by omega); omega
    · exact he
    · have := ybef_mono (a := y' + 1) (b := y) (by omega); omega
  subst hy
  have hm : m = m' := by
    rcases Int.lt_trichotomy m m' with hl | he | hg
    · have := mbef_mono y (a := m + 1) (b := m') (by have := h.m0; omega) (by omega) (by have := h'.m1; omega); omega
    · exact he
    · have := mbef_mono y (a := m' + 1) (b := m) (by have := h'.m0; omega) (by omega) (by have := h.m1; omega); omega
  subst hm
  omega

/-! ## What the printed functions come to -/
theorem leap_eval (y : Int) : date_leap.f y = some (decide (leapP y)) := by
  have h4 : Int.tmod y 4 = 0 ↔ y % 4 = 0 := tmod_zero y 4
  have h100 : Int.tmod y 100 = 0 ↔ y % 100 = 0 := tmod_zero y 100
  have h400 : Int.tmod y 400 = 0 ↔ y % 400 = 0 := tmod_zero y 400
  unfold date_leap.f leapP
  by_cases a : y % 4 = 0
  · rw [if_pos (h4.2 a)]
    by_cases b : y % 100 = 0
    · rw [if_pos (h100.2 b)]
      by_cases c : y % 400 = 0
      · simp [c, h400.2 c]
      · have : ¬ Int.tmod y 400 = 0 := fun h => c (h400.1 h)
        simp [b, c, this]
    · rw [if_neg (fun h => b (h100.1 h))]
      simp [a, b]
  · rw [if_neg (fun h => a (h4.1 h))]
    have c : ¬ y % 400 = 0 := by omega
    have : ¬ Int.tmod y 400 = 0 := fun h => c (h400.1 h)
    simp [a, c, this]
theorem days_eval (k : Nat) (hk : 3 ≤ k) (y m : Int) : date_Days.f k y m = some (daysI y m) := by
  obtain ⟨k, rfl⟩ : ∃ j, k = j + 1 + 1 := ⟨k - 2, by omega⟩
  unfold date_Days.f daysI
  have j0t : date_Days.j0 (k + 1 + 1) y m true = some 0 := by simp [date_Days.j0]
  by_cases a : y < 1970
  · rw [if_pos a, if_pos (.inl a), j0t]
  · rw [if_neg a]
    by_cases b : y > 9999
    · rw [if_pos b, if_pos (by omega), j0t]
    · rw [if_neg b]
      by_cases c : m < 1
      · rw [if_pos c, if_pos (by omega), j0t]
      · rw [if_neg c]
        by_cases d : m > 12
        · rw [if_pos (by omega), decide_eq_true d, j0t]
        · rw [if_neg (by omega), decide_eq_false d]
          simp only [date_Days.j0]
          rw [if_neg (by simp)]
          unfold mlen lp
          by_cases e : m = 2
          · rw [if_pos e, leap_eval]
            simp only [Option.bind_some, date_Days.j1]
            by_cases f : leapP y
            · simp [e, f]
            · simp [e, f]
          · rw [if_neg e]
            simp only [date_Days.j1]
            rw [if_neg (by simp), if_neg e, if_neg e]
            by_cases f4 : m = 4
            · simp [f4]
            · by_cases f6 : m = 6
              · simp [f6]
              · by_cases f9 : m = 9
                · simp [f9]
                · by_cases f11 : m = 11
                  · simp [f11]
                  · simp [f4, f6, f9, f11]
theorem before_eval (y : Int) (h0 : 1 ≤ y) (h1 : y ≤ 20000) : date_before.f y = some (ybef y) := by
  unfold date_before.f ybef
  have e1 : wrap64 (y - 1) = y - 1 := w64 (by omega) (by omega)
  rw [e1, tdiv_pos (by omega), tdiv_pos (by omega), tdiv_pos (by omega)]
  rw [w64 (x := (y - 1) * 365) (by omega) (by omega), w64 (x := (y - 1) / 4) (by omega) (by omega), w64 (x := (y - 1) / 100) (by omega) (by omega), w64 (x := (y - 1) / 400) (by omega) (by omega), w64 (x := (y - 1) * 365 + (y - 1) / 4) (by omega) (by omega), w64 (x := (y - 1) * 365 + (y - 1) / 4 - (y - 1) / 100) (by omega) (by omega), w64 (x := (y - 1) * 365 + (y - 1) / 4 - (y - 1) / 100 + (y - 1) / 400) (by omega) (by omega), w64 (by omega) (by omega)]

theorem daysI_in {y m : Int} (h0 : 1970 ≤ y) (h1 : y ≤ 9999) (h2 : 1 ≤ m) (h3 : m ≤ 12) : daysI y m = mlen y m := by
  unfold daysI; rw [if_neg (by omega)]
theorem split_l1 (t y D : Int) (ht0 : 0 ≤ t) (hD : D = t / 86400) (hy0 : 1970 ≤ y) (hy1 : y ≤ 9999) (hl : ybef y ≤ D) (hu : D < ybef (y + 1)) : ∀ (n : Nat) (m : Int) (k : Nat), m + n = 12 → 1 ≤ m → 0 ≤ D - ybef y - mbef y m → n + 10 < k →
    ∃ m' d', date_Split.l1 k t y m (D - ybef y - mbef y m) = some (y, m', d', t % 86400, 0) ∧ IsDate t y m' d' (t % 86400) := by
  intro n
  induction n with
  | zero =>
    intro m k hm h1 hr hk
    obtain rfl : m = 12 := by omega
    obtain ⟨k, rfl⟩ : ∃ j, k = j + 1 := ⟨k - 1, by omega⟩
    have hs := mbef_succ y 12 (by omega) (by omega)
    have h13 := mbef_13 y
    have hys := ybef_succ y
    have hb := mbef_bd y 12 (by omega) (by omega)
    have hlen := mlen_bd y 12
    have e13 : mbef y (12 + 1) = mbef y 13 := rfl
    refine ⟨12, D - ybef y - mbef y 12 + 1, ?_, ⟨hy0, hy1, by omega, by omega, by omega, by omega, by omega, by omega, by omega⟩⟩
    simp only [date_Split.l1]
    rw [days_eval k (by omega)]
    simp only [Option.bind_some]
    rw [daysI_in hy0 hy1 (by omega) (by omega), if_neg (by omega), w64 (by omega) (by omega), tmod_pos ht0]
  | succ n ih =>
    intro m k hm h1 hr hk
    obtain ⟨k, rfl⟩ : ∃ j, k = j + 1 := ⟨k - 1, by omega⟩
    have hs := mbef_succ y m (by omega) (by omega)
    have hys := ybef_succ y
    have hlp := lp_01 y
    have hb := mbef_bd y m (by omega) (by omega)
    have hlen := mlen_bd y m
    simp only [date_Split.l1]
    rw [days_eval k (by omega)]
    simp only [Option.bind_some]
    rw [daysI_in hy0 hy1 (by omega) (by omega)]
    by_cases hc : D - ybef y - mbef y m ≥ mlen y m
    · rw [if_pos hc, w64 (x := m + 1) (by omega) (by omega), w64 (by omega) (by omega)]
      have := ih (m + 1) k (by omega) (by omega) (by omega) (by omega)
      rw [hs] at this
      rw [show D - ybef y - mbef y m - mlen y m = D - ybef y - (mbef y m + mlen y m) from by omega]
      exact this
    · rw [if_neg hc, w64 (by omega) (by omega), tmod_pos ht0]
      exact ⟨m, D - ybef y - mbef y m + 1, rfl, ⟨hy0, hy1, by omega, by omega, by omega, by omega, by omega, by omega, by omega⟩⟩
theorem split_l0 (t D : Int) (ht0 : 0 ≤ t) (ht1 : t ≤ 253402300799) (hD : D = t / 86400) : ∀ (n : Nat) (y : Int) (k : Nat), y + n = 9999 → 1970 ≤ y → ybef y ≤ D → n + 40 < k →
    ∃ y' m' d', date_Split.l0 k t y D = some (y', m', d', t % 86400, 0) ∧ IsDate t y' m' d' (t % 86400) := by
  have hmax : ybef 10000 = 2932897 := by decide
  have h70 : ybef 1970 = 0 := by decide
  have fin : ∀ (y : Int) (k : Nat), 1970 ≤ y → y ≤ 9999 → ybef y ≤ D → D < ybef (y + 1) → 30 < k → ∃ y' m' d', ((date_before.f y).bind fun t103 => (date_Split.l1 k t y 1 (wrap64 (D - t103)))) = some (y', m', d', t % 86400, 0) ∧ IsDate t y' m' d' (t % 86400) := by
    intro y k hy0 hy1 hl hu hk
    rw [before_eval y (by omega) (by omega)]
    simp only [Option.bind_some]
    have hyb := ybef_mono (a := 1970) (b := y) hy0
    have hys := ybef_succ y
    rw [w64 (by omega) (by omega)]
    have := split_l1 t y D ht0 hD hy0 hy1 hl hu 11 1 k (by omega) (by omega) (by rw [mbef_1]; omega) (by omega)
    rw [mbef_1] at this
    simp only [Int.sub_zero] at this
    obtain ⟨m', d', h1, h2⟩ := this
    exact ⟨y, m', d', h1, h2⟩
  intro n
  induction n with
  | zero =>
    intro y k hy h1 hl hk
    obtain rfl : y = 9999 := by omega
    obtain ⟨k, rfl⟩ : ∃ j, k = j + 1 := ⟨k - 1, by omega⟩
    simp only [date_Split.l0]
    rw [w64 (x := (9999 : Int) + 1) (by omega) (by omega), before_eval (9999 + 1) (by omega) (by omega)]
    simp only [Option.bind_some]
    have e : ybef (9999 + 1) = ybef 10000 := rfl
    have hnle : ¬ ybef (9999 + 1) ≤ D := by rw [e, hmax]; omega
    rw [if_neg hnle]
    exact fin 9999 k (by omega) (by omega) hl (Int.not_le.1 hnle) (by omega)
  | succ n ih =>
    intro y k hy h1 hl hk
    obtain ⟨k, rfl⟩ : ∃ j, k = j + 1 := ⟨k - 1, by omega⟩
    simp only [date_Split.l0]
    rw [w64 (x := y + 1) (by omega) (by omega), before_eval (y + 1) (by omega) (by omega)]
    simp only [Option.bind_some]
    by_cases hc : ybef (y + 1) ≤ D
    · rw [if_pos hc]
      exact ih (y + 1) k (by omega) (by omega) hc (by omega)
    · rw [if_neg hc]
      exact fin y k h1 (by omega) hl (by omega) (by omega)
def KD : Nat := 9000
theorem split_eval (t : Int) (ht0 : 0 ≤ t) (ht1 : t ≤ 253402300799) (k : Nat) (hk : KD ≤ k) : ∃ y m d, date_Split.f k t = some (y, m, d, t % 86400, 0) ∧ IsDate t y m d (t % 86400) := by
  unfold KD at hk
  obtain ⟨k, rfl⟩ : ∃ j, k = j + 1 := ⟨k - 1, by omega⟩
  unfold date_Split.f
  rw [if_neg (by omega), decide_eq_false (by omega)]
  simp only [date_Split.j0]
  rw [if_neg (by simp), tdiv_pos ht0, w64 (x := t / 86400) (by omega) (by omega), tdiv_pos (by omega), w64 (x := t / 86400 / 366) (by omega) (by omega), w64 (by omega) (by omega)]
  refine split_l0 t (t / 86400) ht0 ht1 rfl (9999 - (1970 + t / 86400 / 366)).toNat _ k (by omega) (by omega) ?_ (by omega)
  unfold ybef
  omega
theorem split_none (t : Int) (h : t < 0 ∨ 253402300799 < t) (k : Nat) (hk : 1 ≤ k) : date_Split.f k t = some (0, 0, 0, 0, 11) := by
  obtain ⟨k, rfl⟩ : ∃ j, k = j + 1 := ⟨k - 1, by omega⟩
  unfold date_Split.f
  by_cases h0 : t < 0
  · rw [if_pos h0]; simp [date_Split.j0]
  · rw [if_neg h0, decide_eq_true (show t > 253402300799 by omega)]; simp [date_Split.j0]
theorem IsDate.exists (t : Int) (ht0 : 0 ≤ t) (ht1 : t ≤ 253402300799) : ∃ y m d, IsDate t y m d (t % 86400) := by
  obtain ⟨y, m, d, _, h⟩ := split_eval t ht0 ht1 KD (Nat.le_refl _)
  exact ⟨y, m, d, h⟩
theorem split_of {t y m d r : Int} (h : IsDate t y m d r) (k : Nat) (hk : KD ≤ k) : date_Split.f k t = some (y, m, d, r, 0) := by
  obtain ⟨y', m', d', e, h'⟩ := split_eval t h.range.1 h.range.2 k hk
  obtain ⟨rfl, rfl, rfl, rfl⟩ := h.unique h'
  exact e
/-- The text of a date. -/
def dateB (t y m d r : Int) : List UInt8 := partsB (showParts t y m d r)
theorem show_of {t y m d r : Int} (h : IsDate t y m d r) (k : Nat) (hk : KD ≤ k) : date_Show.f k t = some (⟨(dateB t y m d r).toArray⟩, 0) := by
  unfold date_Show.f
  rw [split_of h k hk]
  simp only [Option.bind_some]
  have hr := h.range
  have hm := mlen_bd y m
  rw [if_pos trivial, if_pos ⟨hr, ⟨by have := h.y0; omega, h.y1⟩, ⟨h.m0, h.m1⟩, ⟨by have := h.d0; omega, by have := h.d1; omega⟩, h.r0, by have := h.r1; omega⟩]
  rfl
theorem show_none (t : Int) (h : t < 0 ∨ 253402300799 < t) (k : Nat) (hk : 1 ≤ k) : date_Show.f k t = some (⟨#[]⟩, 11) := by
  unfold date_Show.f
  rw [split_none t h k hk]
  rfl

/-! ## Texts as lists of bytes -/
theorem bt_list (s : ByteArray) (i : Nat) (h : i < s.data.toList.length) : bt s (i : Int) = ((s.data.toList[i]).toNat : Int) := by
  have h' : i < s.size := by simpa using h
  unfold bt
  simp only [Int.toNat_natCast]
  rw [dif_pos h']
  rfl
theorem size_list (s : ByteArray) : s.size = s.data.toList.length := by simp
theorem ext_list (s : ByteArray) (a b : Nat) : (s.extract a b).data.toList = (s.data.toList.drop a).take (b - a) := by
  rw [ByteArray.data_extract, Array.toList_extract]
theorem toList_eq (s : ByteArray) : s.toList = s.data.toList := ByteArray.toList_eq s
theorem mk_list (l : List UInt8) : (⟨l.toArray⟩ : ByteArray).data.toList = l := by simp
theorem bytes_ext {a b : ByteArray} (h : a.data.toList = b.data.toList) : a = b := by
  cases a; cases b
  simp at h
  simpa using h
def digitsL : List UInt8 → Int → Int
  | [], n => n
  | c :: l, n => if c.toNat < 48 ∨ 57 < c.toNat then -1 else digitsL l (wrap64 (wrap64 (10 * n) + (((c.toNat : Int) - 48) % 256)))
theorem digits_l0 (s : ByteArray) (hs : s.size ≤ 1000) : ∀ (d : Nat) (i : Nat) (n : Int) (k : Nat), i + d = s.size → d < k →
    date_digits.l0 k s n (s.size : Int) (i : Int) = some (digitsL (s.data.toList.drop i) n) := by
  intro d
  induction d with
  | zero =>
    intro i n k hi hk
    obtain ⟨k, rfl⟩ : ∃ j, k = j + 1 := ⟨k - 1, by omega⟩
    simp only [date_digits.l0]
    rw [if_neg (by omega), List.drop_of_length_le (by rw [← size_list]; omega)]
    rfl
  | succ d ih =>
    intro i n k hi hk
    obtain ⟨k, rfl⟩ : ∃ j, k = j + 1 := ⟨k - 1, by omega⟩
    have hlt : i < s.data.toList.length := by rw [← size_list]; omega
    simp only [date_digits.l0]
    rw [if_pos (by omega), if_pos (by omega), if_pos (by omega), List.drop_eq_getElem_cons hlt, bt_list s i hlt]
    simp only [digitsL]
    by_cases h1 : (s.data.toList[i]).toNat < 48
    · rw [if_pos (by omega), if_pos (.inl h1)]
    · rw [if_neg (by omega)]
      by_cases h2 : 57 < (s.data.toList[i]).toNat
      · rw [if_pos (by omega), if_pos (.inr h2)]
      · rw [if_neg (by omega), if_neg (by omega)]
        have := ih (i + 1) (wrap64 (wrap64 (10 * n) + (((s.data.toList[i]).toNat : Int) - 48) % 256)) k (by omega) (by omega)
        rw [← this, w64 (x := (i : Int) + 1) (by omega) (by omega)]
        rfl
theorem digits_eval (s : ByteArray) (hs : s.size ≤ 1000) (k : Nat) (hk : KD ≤ k) : date_digits.f k s = some (digitsL s.data.toList 0) := by
  unfold KD at hk
  unfold date_digits.f
  have := digits_l0 s hs s.size 0 0 k (by omega) (by omega)
  simpa using this
/-- A sign of a digit. -/
def dg (x : Int) : UInt8 := (48 + x % 10).toNat.toUInt8
theorem dg_nat (x : Int) : ((dg x).toNat : Int) = 48 + x % 10 := by
  unfold dg
  have h0 : 0 ≤ x % 10 := by omega
  have h1 : x % 10 < 10 := by omega
  generalize x % 10 = z at *
  obtain ⟨n, rfl⟩ := Int.eq_ofNat_of_zero_le h0
  have e : ((48 : Int) + (n : Int)).toNat = 48 + n := by omega
  rw [e]
  simp
  omega
theorem digitsL_dg (x n : Int) (l : List UInt8) (h0 : 0 ≤ n) (h1 : n ≤ 1000000) : digitsL (dg x :: l) n = digitsL l (10 * n + x % 10) := by
  have e := dg_nat x
  have b0 : 0 ≤ x % 10 := by omega
  have b1 : x % 10 < 10 := by omega
  simp only [digitsL]
  rw [if_neg (by omega), w64 (x := 10 * n) (by omega) (by omega), e, show (48 + x % 10 - 48) % 256 = x % 10 by omega, w64 (by omega) (by omega)]
theorem numB2 (v : Int) : numB v 10 = [dg (v / 10), dg v] := by
  rw [numB_step _ _ (by omega), numB_step _ _ (by omega), numB_zero _ _ (by omega)]
  unfold dg
  simp
theorem numB4 (v : Int) : numB v 1000 = [dg (v / 1000), dg (v / 100), dg (v / 10), dg v] := by
  rw [numB_step _ _ (by omega), numB_step _ _ (by omega), numB_step _ _ (by omega), numB_step _ _ (by omega), numB_zero _ _ (by omega)]
  unfold dg
  simp
theorem digits2 (v : Int) (h0 : 0 ≤ v) (h1 : v ≤ 99) : digitsL [dg (v / 10), dg v] 0 = v := by
  rw [digitsL_dg _ _ _ (by omega) (by omega), digitsL_dg _ _ _ (by omega) (by omega)]
  simp only [digitsL]
  omega
theorem digits4 (v : Int) (h0 : 0 ≤ v) (h1 : v ≤ 9999) : digitsL [dg (v / 1000), dg (v / 100), dg (v / 10), dg v] 0 = v := by
  rw [digitsL_dg _ _ _ (by omega) (by omega), digitsL_dg _ _ _ (by omega) (by omega), digitsL_dg _ _ _ (by omega) (by omega), digitsL_dg _ _ _ (by omega) (by omega)]
  simp only [digitsL]
  omega
theorem digitsL_bd : ∀ (l : List UInt8) (n b : Int), 0 ≤ n → n ≤ b → b ≤ 100000 → l.length ≤ 1 → (digitsL l n = -1 ∨ (0 ≤ digitsL l n ∧ digitsL l n ≤ 10 * b + 9)) := by
  intro l n b h0 h1 h2 hl
  match l, hl with
  | [], _ => simp only [digitsL]; omega
  | [c], _ =>
    simp only [digitsL]
    split
    · exact .inl rfl
    · rename_i hc
      rw [w64 (x := 10 * n) (by omega) (by omega), w64 (by omega) (by omega)]
      omega
theorem digitsL_cons (c : UInt8) (l : List UInt8) (n b : Int) (h0 : 0 ≤ n) (h1 : n ≤ b) (h2 : b ≤ 100000) : digitsL (c :: l) n = -1 ∨ ∃ n', 0 ≤ n' ∧ n' ≤ 10 * b + 9 ∧ digitsL (c :: l) n = digitsL l n' := by
  simp only [digitsL]
  split
  · exact .inl rfl
  · rename_i hc
    rw [w64 (x := 10 * n) (by omega) (by omega)]
    refine .inr ⟨_, ?_, ?_, rfl⟩ <;> rw [w64 (by omega) (by omega)] <;> omega
theorem digits2_bd (a b : UInt8) : -1 ≤ digitsL [a, b] 0 ∧ digitsL [a, b] 0 ≤ 99 := by
  rcases digitsL_cons a [b] 0 0 (by omega) (by omega) (by omega) with h | ⟨n, h0, h1, h⟩
  · omega
  · rw [h]
    rcases digitsL_bd [b] n 9 h0 (by omega) (by omega) (by simp) with h | h <;> omega
theorem digits4_bd (a b c d : UInt8) : -1 ≤ digitsL [a, b, c, d] 0 ∧ digitsL [a, b, c, d] 0 ≤ 9999 := by
  rcases digitsL_cons a [b, c, d] 0 0 (by omega) (by omega) (by omega) with h | ⟨n, h0, h1, h⟩
  · omega
  · rw [h]
    rcases digitsL_cons b [c, d] n 9 h0 (by omega) (by omega) with h | ⟨n, h0, h1, h⟩
    · omega
    · rw [h]
      rcases digitsL_cons c [d] n 99 h0 (by omega) (by omega) with h | ⟨n, h0, h1, h⟩
      · omega
      · rw [h]
        rcases digitsL_bd [d] n 999 h0 (by omega) (by omega) (by simp) with h | h <;> omega
/-! ## The text of a date, sign by sign -/
def wdB (q : Int) : List UInt8 := if q = 0 then [84, 104, 117] else if q = 1 then [70, 114, 105] else if q = 2 then [83, 97, 116] else if q = 3 then [83, 117, 110] else if q = 4 then [77, 111, 110] else if q = 5 then [84, 117, 101] else [87, 101, 100]
def moB (m : Int) : List UInt8 := if m = 1 then [74, 97, 110] else if m = 2 then [70, 101, 98] else if m = 3 then [77, 97, 114] else if m = 4 then [65, 112, 114] else if m = 5 then [77, 97, 121] else if m = 6 then [74, 117, 110] else if m = 7 then [74, 117, 108] else if m = 8 then [65, 117, 103] else if m = 9 then [83, 101, 112] else if m = 10 then [79, 99, 116] else if m = 11 then [78, 111, 118] else [68, 101, 99]
theorem wd_ext (q : Int) (h0 : 0 ≤ q) (h1 : q ≤ 6) : (weekB.extract (q * 3).toNat (q * 3 + 3).toNat).data.toList = wdB q := by
  have hq : q = 0 ∨ q = 1 ∨ q = 2 ∨ q = 3 ∨ q = 4 ∨ q = 5 ∨ q = 6 := by omega
  rw [ext_list]
  rcases hq with rfl | rfl | rfl | rfl | rfl | rfl | rfl <;> rfl
theorem mo_ext (m : Int) (h0 : 1 ≤ m) (h1 : m ≤ 12) : (monthB.extract (3 * m - 3).toNat (3 * m - 3 + 3).toNat).data.toList = moB m := by
  have hm : m = 1 ∨ m = 2 ∨ m = 3 ∨ m = 4 ∨ m = 5 ∨ m = 6 ∨ m = 7 ∨ m = 8 ∨ m = 9 ∨ m = 10 ∨ m = 11 ∨ m = 12 := by omega
  rw [ext_list]
  rcases hm with rfl | rfl | rfl | rfl | rfl | rfl | rfl | rfl | rfl | rfl | rfl | rfl <;> rfl
theorem wd_three (q : Int) : ∃ a b c, wdB q = [a, b, c] := by
  unfold wdB
  repeat' first | exact ⟨_, _, _, rfl⟩ | split
theorem three_of {l : List UInt8} (h : l.length = 3) : ∃ a b c, l = [a, b, c] := by
  match l, h with
  | [a, b, c], _ => exact ⟨a, b, c, rfl⟩
theorem mo_three (m : Int) : ∃ a b c, moB m = [a, b, c] := by
  refine three_of ?_
  unfold moB
  repeat (first | rfl | (rw [apply_ite List.length]; split) | split)
theorem mo_index (m : Int) (h0 : 1 ≤ m) (h1 : m ≤ 12) : Lib.index monthB.data.toList (moB m) = 3 * m - 3 := by
  have hm : m = 1 ∨ m = 2 ∨ m = 3 ∨ m = 4 ∨ m = 5 ∨ m = 6 ∨ m = 7 ∨ m = 8 ∨ m = 9 ∨ m = 10 ∨ m = 11 ∨ m = 12 := by omega
  rcases hm with rfl | rfl | rfl | rfl | rfl | rfl | rfl | rfl | rfl | rfl | rfl | rfl <;> decide +kernel
theorem dateB_eq {t y m d r : Int} (h : IsDate t y m d r) : dateB t y m d r =
    wdB (t / 86400 % 7) ++ [44, 32, dg (d / 10), dg d, 32] ++ moB m ++ [32, dg (y / 1000), dg (y / 100), dg (y / 10), dg y, 32, dg (r / 3600 / 10), dg (r / 3600), 58, dg (r / 60 % 60 / 10), dg (r / 60 % 60), 58, dg (r % 60 / 10), dg (r % 60), 32, 71, 77, 84] := by
  have hr := h.range
  unfold dateB partsB showParts
  simp only [List.map_cons, List.map_nil, PPart.bytes, List.flatten_cons, List.flatten_nil, if_true, if_neg (show ¬ (4 : Int) = 2 by decide), numB2, numB4]
  rw [wd_ext _ (by omega) (by omega), mo_ext _ h.m0 h.m1]
  simp
theorem dateB_len {t y m d r : Int} (h : IsDate t y m d r) : (dateB t y m d r).length = 29 := by
  rw [dateB_eq h]
  obtain ⟨a, b, c, e⟩ := wd_three (t / 86400 % 7)
  obtain ⟨a', b', c', e'⟩ := mo_three m
  rw [e, e']
  rfl

/-! ## Reading a date -/
theorem read_l0 (s : ByteArray) (ix y d h mi se : Int) (hix0 : 0 ≤ ix) (hix1 : ix ≤ 35) (hh0 : 0 ≤ h) (hh1 : h ≤ 23) (hm0 : 0 ≤ mi) (hm1 : mi ≤ 59) (hs0 : 0 ≤ se) (hs1 : se ≤ 59)
    (H : IsDate ((ybef y + mbef y (ix / 3 + 1) + d - 1) * 86400 + (h * 3600 + mi * 60 + se)) y (ix / 3 + 1) d (h * 3600 + mi * 60 + se)) : ∀ (n : Nat) (x : Int) (k : Nat), x + n = ix / 3 + 1 → 1 ≤ x → KD + n + 2 ≤ k →
    date_Read.l0 k s ix y h mi se (ybef y + d - 1 + mbef y x) x =
      if dateB ((ybef y + mbef y (ix / 3 + 1) + d - 1) * 86400 + (h * 3600 + mi * 60 + se)) y (ix / 3 + 1) d (h * 3600 + mi * 60 + se) = s.data.toList then some ((ybef y + mbef y (ix / 3 + 1) + d - 1) * 86400 + (h * 3600 + mi * 60 + se), 0) else some (0, 14) := by
  have hr := H.range
  have hyb := ybef_mono (a := 1970) (b := y) H.y0
  have hyt := ybef_mono (a := y) (b := 9999) H.y1
  have h70 : ybef 1970 = 0 := by decide
  have h99 : ybef 9999 = 2932532 := by decide
  have hd1 := (mlen_bd y (ix / 3 + 1)).2
  have := H.d0; have := H.d1
  intro n
  induction n with
  | zero =>
    intro x k hx h1 hk
    obtain ⟨k, rfl⟩ : ∃ j, k = j + 1 := ⟨k - 1, by omega⟩
    obtain rfl : x = ix / 3 + 1 := by omega
    have hb := mbef_bd y (ix / 3 + 1) (by omega) (by omega)
    simp only [date_Read.l0]
    rw [tdiv_pos hix0, w64 (x := ix / 3) (by omega) (by omega), if_neg (by omega)]
    have e1 : wrap64 ((ybef y + d - 1 + mbef y (ix / 3 + 1)) * 86400) = (ybef y + d - 1 + mbef y (ix / 3 + 1)) * 86400 := w64 (by omega) (by omega)
    have e2 : wrap64 (h * 3600) = h * 3600 := w64 (by omega) (by omega)
    have e3 : wrap64 (mi * 60) = mi * 60 := w64 (by omega) (by omega)
    rw [e1, e2, e3]
    have e4 : wrap64 ((ybef y + d - 1 + mbef y (ix / 3 + 1)) * 86400 + h * 3600) = (ybef y + d - 1 + mbef y (ix / 3 + 1)) * 86400 + h * 3600 := w64 (by omega) (by omega)
    rw [e4]
    have e5 : wrap64 ((ybef y + d - 1 + mbef y (ix / 3 + 1)) * 86400 + h * 3600 + mi * 60) = (ybef y + d - 1 + mbef y (ix / 3 + 1)) * 86400 + h * 3600 + mi * 60 := w64 (by omega) (by omega)
    rw [e5]
    have e6 : wrap64 ((ybef y + d - 1 + mbef y (ix / 3 + 1)) * 86400 + h * 3600 + mi * 60 + se) = (ybef y + mbef y (ix / 3 + 1) + d - 1) * 86400 + (h * 3600 + mi * 60 + se) := by rw [w64 (by omega) (by omega)]; omega
    rw [e6, show_of H k (by omega)]
    simp only [Option.bind_some, toList_eq, mk_list]
  | succ n ih =>
    intro x k hx h1 hk
    obtain ⟨k, rfl⟩ : ∃ j, k = j + 1 := ⟨k - 1, by omega⟩
    have hb := mbef_bd y x (by omega) (by omega)
    have hsu := mbef_succ y x (by omega) (by omega)
    have hml := mlen_bd y x
    simp only [date_Read.l0]
    rw [tdiv_pos hix0, w64 (x := ix / 3) (by omega) (by omega), if_pos (by omega), days_eval k (by unfold KD at hk; omega)]
    simp only [Option.bind_some]
    rw [daysI_in H.y0 H.y1 (by omega) (by omega), w64 (x := x + 1) (by omega) (by omega), w64 (by omega) (by omega)]
    have := ih (x + 1) k (by omega) (by omega) (by omega)
    rw [hsu] at this
    rw [show ybef y + d - 1 + mbef y x + mlen y x = ybef y + d - 1 + (mbef y x + mlen y x) from by omega]
    exact this
/-- What stands at the places of a text of 29 bytes. -/
def fIx (s : ByteArray) : Int := Lib.index monthB.data.toList ((s.data.toList.drop 8).take 3)
def fN (s : ByteArray) (a n : Nat) : Int := digitsL ((s.data.toList.drop a).take n) 0
def fBad (s : ByteArray) : Prop := fIx s < 0 ∨ fIx s % 3 ≠ 0 ∨ fN s 5 2 < 1 ∨ daysI (fN s 12 4) (fIx s / 3 + 1) < fN s 5 2 ∨ fN s 17 2 < 0 ∨ 23 < fN s 17 2 ∨ fN s 20 2 < 0 ∨ 59 < fN s 20 2 ∨ fN s 23 2 < 0 ∨ 59 < fN s 23 2
theorem fIx_le (s : ByteArray) : fIx s ≤ 36 := by
  have := Lib.index_le monthB.data.toList ((s.data.toList.drop 8).take 3)
  exact this
theorem read_small (s : ByteArray) (h : s.size ≠ 29) (k : Nat) : date_Read.f k s = some (0, 14) := by
  unfold date_Read.f
  rw [if_neg (by omega)]
theorem read_j0t (s : ByteArray) (a b c d e f : Int) (k : Nat) (hk : 1 ≤ k) : date_Read.j0 k s a b c d e f true = some (0, 14) := by
  obtain ⟨k, rfl⟩ : ∃ j, k = j + 1 := ⟨k - 1, by omega⟩
  simp [date_Read.j0]
theorem read_29 (s : ByteArray) (h : s.size = 29) (k : Nat) (hk : KD ≤ k) :
    (fBad s → date_Read.f k s = some (0, 14)) ∧ (¬ fBad s → date_Read.f k s = date_Read.j0 k s (fIx s) (fN s 12 4) (fN s 5 2) (fN s 17 2) (fN s 20 2) (fN s 23 2) false) := by
  have hk1 : 1 ≤ k := by unfold KD at hk; omega
  have dig : ∀ a b, b ≤ 29 → date_digits.f k (s.extract a b) = some (fN s a (b - a)) := by
    intro a b hb
    rw [digits_eval _ (by rw [ByteArray.size_extract]; omega) k hk, ext_list]
    rfl
  have hidx : strings_Index.f (⟨#[74, 97, 110, 70, 101, 98, 77, 97, 114, 65, 112, 114, 77, 97, 121, 74, 117, 110, 74, 117, 108, 65, 117, 103, 83, 101, 112, 79, 99, 116, 78, 111, 118, 68, 101, 99]⟩ : ByteArray) (s.extract 8 11) = some (fIx s) := by
    unfold strings_Index.f
    rw [if_pos (by decide), ext_list]
    rfl
  have hile := fIx_le s
  unfold date_Read.f
  rw [if_pos (by omega), if_pos (by omega), if_pos (by omega), hidx]
  simp only [Option.bind_some]
  rw [if_pos (by omega), if_pos (by omega), dig 12 16 (by omega)]
  simp only [Option.bind_some]
  rw [if_pos (by omega), if_pos (by omega), dig 5 7 (by omega)]
  simp only [Option.bind_some]
  rw [if_pos (by omega), if_pos (by omega), dig 17 19 (by omega)]
  simp only [Option.bind_some]
  rw [if_pos (by omega), if_pos (by omega), dig 20 22 (by omega)]
  simp only [Option.bind_some]
  rw [if_pos (by omega), if_pos (by omega), dig 23 25 (by omega)]
  simp only [Option.bind_some, Nat.reduceSub]
  unfold fBad
  by_cases c1 : fIx s < 0
  · rw [if_pos c1, read_j0t _ _ _ _ _ _ _ k hk1]
    exact ⟨fun _ => rfl, fun hn => absurd (.inl c1) hn⟩
  · rw [if_neg c1]
    by_cases c2 : fIx s % 3 = 0
    · rw [if_pos ((tmod_zero _ _).2 c2)]
      by_cases c3 : fN s 5 2 < 1
      · rw [if_pos c3, read_j0t _ _ _ _ _ _ _ k hk1]
        exact ⟨fun _ => rfl, fun hn => absurd (.inr (.inr (.inl c3))) hn⟩
      · rw [if_neg c3, tdiv_pos (by omega), w64 (x := fIx s / 3) (by omega) (by omega), w64 (by omega) (by omega), days_eval k (by unfold KD at hk; omega)]
        simp only [Option.bind_some]
        by_cases c4 : fN s 5 2 > daysI (fN s 12 4) (fIx s / 3 + 1)
        · rw [if_pos c4, read_j0t _ _ _ _ _ _ _ k hk1]
          exact ⟨fun _ => rfl, fun hn => absurd (.inr (.inr (.inr (.inl c4)))) hn⟩
        · rw [if_neg c4]
          by_cases c5 : fN s 17 2 < 0
          · rw [if_pos c5, read_j0t _ _ _ _ _ _ _ k hk1]
            exact ⟨fun _ => rfl, fun hn => absurd (.inr (.inr (.inr (.inr (.inl c5))))) hn⟩
          · rw [if_neg c5]
            by_cases c6 : fN s 17 2 > 23
            · rw [if_pos c6, read_j0t _ _ _ _ _ _ _ k hk1]
              exact ⟨fun _ => rfl, fun hn => absurd (.inr (.inr (.inr (.inr (.inr (.inl c6)))))) hn⟩
            · rw [if_neg c6]
              by_cases c7 : fN s 20 2 < 0
              · rw [if_pos c7, read_j0t _ _ _ _ _ _ _ k hk1]
                exact ⟨fun _ => rfl, fun hn => absurd (.inr (.inr (.inr (.inr (.inr (.inr (.inl c7))))))) hn⟩
              · rw [if_neg c7]
                by_cases c8 : fN s 20 2 > 59
                · rw [if_pos c8, read_j0t _ _ _ _ _ _ _ k hk1]
                  exact ⟨fun _ => rfl, fun hn => absurd (.inr (.inr (.inr (.inr (.inr (.inr (.inr (.inl c8)))))))) hn⟩
                · rw [if_neg c8]
                  by_cases c9 : fN s 23 2 < 0
                  · rw [if_pos c9, read_j0t _ _ _ _ _ _ _ k hk1]
                    exact ⟨fun _ => rfl, fun hn => absurd (.inr (.inr (.inr (.inr (.inr (.inr (.inr (.inr (.inl c9))))))))) hn⟩
                  · rw [if_neg c9]
                    by_cases c10 : fN s 23 2 > 59
                    · rw [decide_eq_true c10, read_j0t _ _ _ _ _ _ _ k hk1]
                      exact ⟨fun _ => rfl, fun hn => absurd (.inr (.inr (.inr (.inr (.inr (.inr (.inr (.inr (.inr c10))))))))) hn⟩
                    · rw [decide_eq_false c10]
                      refine ⟨fun hb => ?_, fun _ => rfl⟩
                      omega
    · rw [if_neg (fun h => c2 ((tmod_zero _ _).1 h)), read_j0t _ _ _ _ _ _ _ k hk1]
      exact ⟨fun _ => rfl, fun hn => absurd (.inr (.inl c2)) hn⟩
theorem read_good (s : ByteArray) (h : s.size = 29) (hg : ¬ fBad s) (k : Nat) (hk : KD + 20 ≤ k) :
    ∃ t y m d r, IsDate t y m d r ∧ m = fIx s / 3 + 1 ∧ y = fN s 12 4 ∧ d = fN s 5 2 ∧ r = fN s 17 2 * 3600 + fN s 20 2 * 60 + fN s 23 2 ∧ date_Read.f k s = if dateB t y m d r = s.data.toList then some (t, 0) else some (0, 14) := by
  rw [(read_29 s h k (by omega)).2 hg]
  obtain ⟨k, rfl⟩ : ∃ j, k = j + 1 := ⟨k - 1, by omega⟩
  unfold fBad at hg
  have hdays : fN s 5 2 ≤ daysI (fN s 12 4) (fIx s / 3 + 1) := by omega
  have hin : ¬ (fN s 12 4 < 1970 ∨ 9999 < fN s 12 4 ∨ fIx s / 3 + 1 < 1 ∨ 12 < fIx s / 3 + 1) := by
    intro hn
    unfold daysI at hdays
    rw [if_pos hn] at hdays
    omega
  rw [daysI_in (by omega) (by omega) (by omega) (by omega)] at hdays
  have hml := mlen_bd (fN s 12 4) (fIx s / 3 + 1)
  have H : IsDate ((ybef (fN s 12 4) + mbef (fN s 12 4) (fIx s / 3 + 1) + fN s 5 2 - 1) * 86400 + (fN s 17 2 * 3600 + fN s 20 2 * 60 + fN s 23 2)) (fN s 12 4) (fIx s / 3 + 1) (fN s 5 2) (fN s 17 2 * 3600 + fN s 20 2 * 60 + fN s 23 2) :=
    ⟨by omega, by omega, by omega, by omega, by omega, hdays, by omega, by omega, rfl⟩
  refine ⟨_, _, _, _, _, H, rfl, rfl, rfl, rfl, ?_⟩
  have hyb := ybef_mono (a := 1970) (b := fN s 12 4) H.y0
  have hyt := ybef_mono (a := fN s 12 4) (b := 9999) H.y1
  have h70 : ybef 1970 = 0 := by decide
  have h99 : ybef 9999 = 2932532 := by decide
  simp only [date_Read.j0]
  rw [if_neg (by simp), before_eval _ (by omega) (by omega)]
  simp only [Option.bind_some]
  rw [w64 (x := ybef (fN s 12 4) + fN s 5 2) (by omega) (by omega), w64 (by omega) (by omega)]
  have := read_l0 s (fIx s) (fN s 12 4) (fN s 5 2) (fN s 17 2) (fN s 20 2) (fN s 23 2) (by omega) (by omega) (by omega) (by omega) (by omega) (by omega) (by omega) (by omega) H (fIx s / 3).toNat 1 k (by omega) (by omega) (by omega)
  rw [mbef_1] at this
  simp only [Int.add_zero] at this
  exact this
/-- A date is read as its time. -/
theorem read_date {t y m d r : Int} (h : IsDate t y m d r) (s : ByteArray) (hs : s.data.toList = dateB t y m d r) (k : Nat) (hk : KD + 20 ≤ k) : date_Read.f k s = some (t, 0) := by
  have h29 : s.size = 29 := by rw [size_list, hs, dateB_len h]
  have hr := h.range
  have e := dateB_eq h
  obtain ⟨a1, a2, a3, ea⟩ := wd_three (t / 86400 % 7)
  obtain ⟨b1, b2, b3, eb⟩ := mo_three m
  have hix := mo_index m h.m0 h.m1
  rw [ea, eb] at e
  rw [eb] at hix
  have hd1 := (mlen_bd y m).2
  have hy := h.y0; have hy' := h.y1; have hd := h.d0; have hd' := h.d1; have hr0 := h.r0; have hr1 := h.r1; have hm0 := h.m0; have hm1 := h.m1
  have f1 : fIx s = 3 * m - 3 := by unfold fIx; rw [hs, e]; exact hix
  have f2 : fN s 12 4 = y := by unfold fN; rw [hs, e]; exact digits4 y (by omega) (by omega)
  have f3 : fN s 5 2 = d := by unfold fN; rw [hs, e]; exact digits2 d (by omega) (by omega)
  have f4 : fN s 17 2 = r / 3600 := by unfold fN; rw [hs, e]; exact digits2 (r / 3600) (by omega) (by omega)
  have f5 : fN s 20 2 = r / 60 % 60 := by unfold fN; rw [hs, e]; exact digits2 (r / 60 % 60) (by omega) (by omega)
  have f6 : fN s 23 2 = r % 60 := by unfold fN; rw [hs, e]; exact digits2 (r % 60) (by omega) (by omega)
  have hg : ¬ fBad s := by
    unfold fBad
    rw [f1, f2, f3, f4, f5, f6, show (3 * m - 3) / 3 + 1 = m by omega, daysI_in hy hy' hm0 hm1]
    omega
  obtain ⟨t', y', m', d', r', H', em, ey, ed, er, ef⟩ := read_good s h29 hg k hk
  rw [f1] at em; rw [f2] at ey; rw [f3] at ed; rw [f4, f5, f6] at er
  obtain rfl : m' = m := by omega
  subst ey; subst ed
  obtain rfl : r' = r := by omega
  obtain rfl : t' = t := by rw [H'.eq, h.eq]
  rw [ef, hs, if_pos rfl]
/-- What is read is the date of a time, or refused. -/
theorem read_any (s : ByteArray) (k : Nat) (hk : KD + 20 ≤ k) :
    (date_Read.f k s = some (0, 14) ∧ ∀ t y m d r, IsDate t y m d r → s.data.toList ≠ dateB t y m d r) ∨ ∃ t y m d r, IsDate t y m d r ∧ s.data.toList = dateB t y m d r ∧ date_Read.f k s = some (t, 0) := by
  by_cases hx : ∃ t y m d r, IsDate t y m d r ∧ s.data.toList = dateB t y m d r
  · obtain ⟨t, y, m, d, r, h, e⟩ := hx
    exact .inr ⟨t, y, m, d, r, h, e, read_date h s e k hk⟩
  · refine .inl ⟨?_, fun t y m d r h e => hx ⟨t, y, m, d, r, h, e⟩⟩
    by_cases h29 : s.size = 29
    · by_cases hb : fBad s
      · exact (read_29 s h29 k (by omega)).1 hb
      · obtain ⟨t, y, m, d, r, H, _, _, _, _, ef⟩ := read_good s h29 hb k hk
        rw [ef, if_neg (fun e => hx ⟨t, y, m, d, r, H, e.symm⟩)]
    · exact read_small s h29 k
theorem dateB_inj {t y m d r t' y' m' d' r' : Int} (h : IsDate t y m d r) (h' : IsDate t' y' m' d' r') (e : dateB t y m d r = dateB t' y' m' d' r') : t = t' := by
  have h1 := read_date h ⟨(dateB t y m d r).toArray⟩ (by simp) (KD + 20) (Nat.le_refl _)
  have h2 := read_date h' ⟨(dateB t y m d r).toArray⟩ (by rw [← e]) (KD + 20) (Nat.le_refl _)
  rw [h1] at h2
  simpa using h2

/-! ## The document's days -/
theorem leap_ref (y : Int) : pantryref02_Leap.f y = some (decide (leapP y)) := by
  have h4 : Int.tmod y 4 = 0 ↔ y % 4 = 0 := tmod_zero y 4
  have h100 : Int.tmod y 100 = 0 ↔ y % 100 = 0 := tmod_zero y 100
  have h400 : Int.tmod y 400 = 0 ↔ y % 400 = 0 := tmod_zero y 400
  unfold pantryref02_Leap.f leapP
  by_cases c : y % 400 = 0
  · rw [if_pos (h400.2 c)]
    simp [c]
  · rw [if_neg (fun h => c (h400.1 h))]
    by_cases a : y % 4 = 0
    · rw [if_pos (h4.2 a)]
      by_cases b : y % 100 = 0
      · simp [a, b, c, h100.2 b]
      · have : ¬ Int.tmod y 100 = 0 := fun h => b (h100.1 h)
        simp [a, b, this]
    · rw [if_neg (fun h => a (h4.1 h))]
      simp [a, c]
theorem days_ref (y m : Int) : pantryref02_Days.f y m = some (daysI y m) := by
  unfold pantryref02_Days.f daysI
  by_cases h : y < 1970 ∨ 9999 < y ∨ m < 1 ∨ 12 < m
  · rw [if_pos h, if_pos h]
  · rw [if_neg h, if_neg h, leap_ref]
    simp only [Option.bind_some]
    have hm : m = 1 ∨ m = 2 ∨ m = 3 ∨ m = 4 ∨ m = 5 ∨ m = 6 ∨ m = 7 ∨ m = 8 ∨ m = 9 ∨ m = 10 ∨ m = 11 ∨ m = 12 := by omega
    unfold mlen lp
    by_cases hl : leapP y
    · rcases hm with rfl | rfl | rfl | rfl | rfl | rfl | rfl | rfl | rfl | rfl | rfl | rfl <;> simp [hl, refTab]
    · rcases hm with rfl | rfl | rfl | rfl | rfl | rfl | rfl | rfl | rfl | rfl | rfl | rfl <;> simp [hl, refTab]

/-! ## The reference's date, year by year -/
theorem ref_l1 (t y D : Int) (ht0 : 0 ≤ t) (hD : D = t / 86400) (hy0 : 1970 ≤ y) (hy1 : y ≤ 9999) (hl : ybef y ≤ D) (hu : D < ybef (y + 1)) (hu2 : D ≤ 3000000) : ∀ (n : Nat) (m : Int) (k : Nat), m + n = 12 → 1 ≤ m → 0 ≤ D - ybef y - mbef y m → n < k →
    ∃ m' d', pantryref02_Split.l1 k t (D - ybef y - mbef y m) y m = some (y, m', d', t % 86400) ∧ IsDate t y m' d' (t % 86400) := by
  have hyb := ybef_mono (a := 1970) (b := y) hy0
  have h70 : ybef 1970 = 0 := by decide
  intro n
  induction n with
  | zero =>
    intro m k hm h1 hr hk
    obtain rfl : m = 12 := by omega
    obtain ⟨k, rfl⟩ : ∃ j, k = j + 1 := ⟨k - 1, by omega⟩
    have hs := mbef_succ y 12 (by omega) (by omega)
    have h13 := mbef_13 y
    have hys := ybef_succ y
    have hb := mbef_bd y 12 (by omega) (by omega)
    have hlen := mlen_bd y 12
    have e13 : mbef y (12 + 1) = mbef y 13 := rfl
    refine ⟨12, D - ybef y - mbef y 12 + 1, ?_, ⟨hy0, hy1, by omega, by omega, by omega, by omega, by omega, by omega, by omega⟩⟩
    simp only [pantryref02_Split.l1]
    rw [days_ref]
    simp only [Option.bind_some]
    rw [daysI_in hy0 hy1 (by omega) (by omega), if_neg (by omega), w64 (by omega) (by omega), tmod_pos ht0]
  | succ n ih =>
    intro m k hm h1 hr hk
    obtain ⟨k, rfl⟩ : ∃ j, k = j + 1 := ⟨k - 1, by omega⟩
    have hs := mbef_succ y m (by omega) (by omega)
    have hys := ybef_succ y
    have hlp := lp_01 y
    have hb := mbef_bd y m (by omega) (by omega)
    have hlen := mlen_bd y m
    simp only [pantryref02_Split.l1]
    rw [days_ref]
    simp only [Option.bind_some]
    rw [daysI_in hy0 hy1 (by omega) (by omega)]
    by_cases hc : D - ybef y - mbef y m ≥ mlen y m
    · rw [if_pos hc, w64 (x := m + 1) (by omega) (by omega), w64 (by omega) (by omega)]
      have := ih (m + 1) k (by omega) (by omega) (by omega) (by omega)
      rw [hs] at this
      rw [show D - ybef y - mbef y m - mlen y m = D - ybef y - (mbef y m + mlen y m) from by omega]
      exact this
    · rw [if_neg hc, w64 (by omega) (by omega), tmod_pos ht0]
      exact ⟨m, D - ybef y - mbef y m + 1, rfl, ⟨hy0, hy1, by omega, by omega, by omega, by omega, by omega, by omega, by omega⟩⟩
theorem ref_l0 (t D : Int) (ht0 : 0 ≤ t) (ht1 : t ≤ 253402300799) (hD : D = t / 86400) : ∀ (n : Nat) (y : Int) (k : Nat), y + n = 9999 → 1970 ≤ y → ybef y ≤ D → n + 40 < k →
    ∃ y' m' d', pantryref02_Split.l0 k t (D - ybef y) y = some (y', m', d', t % 86400) ∧ IsDate t y' m' d' (t % 86400) := by
  have hmax : ybef 10000 = 2932897 := by decide
  have h70 : ybef 1970 = 0 := by decide
  have fin : ∀ (y : Int) (k : Nat), 1970 ≤ y → y ≤ 9999 → ybef y ≤ D → D < ybef (y + 1) → 30 < k → ∃ y' m' d', pantryref02_Split.j1 k t (D - ybef y) y = some (y', m', d', t % 86400) ∧ IsDate t y' m' d' (t % 86400) := by
    intro y k hy0 hy1 hl hu hk
    obtain ⟨k, rfl⟩ : ∃ j, k = j + 1 := ⟨k - 1, by omega⟩
    simp only [pantryref02_Split.j1]
    have := ref_l1 t y D ht0 hD hy0 hy1 hl hu (by omega) 11 1 k (by omega) (by omega) (by rw [mbef_1]; omega) (by omega)
    rw [mbef_1] at this
    simp only [Int.sub_zero] at this
    obtain ⟨m', d', h1, h2⟩ := this
    exact ⟨y, m', d', h1, h2⟩
  intro n
  induction n with
  | zero =>
    intro y k hy h1 hl hk
    obtain rfl : y = 9999 := by omega
    obtain ⟨k, rfl⟩ : ∃ j, k = j + 1 := ⟨k - 1, by omega⟩
    have h99 : ybef 9999 = 2932532 := by decide
    have hlf : ¬ leapP 9999 := by decide
    simp only [pantryref02_Split.l0]
    rw [leap_ref, decide_eq_false hlf]
    simp only [Option.bind_some]
    rw [if_neg (by simp), if_pos (by omega)]
    exact fin 9999 k (by omega) (by omega) hl (by rw [show (9999 : Int) + 1 = 10000 by rfl]; omega) (by omega)
  | succ n ih =>
    intro y k hy h1 hl hk
    obtain ⟨k, rfl⟩ : ∃ j, k = j + 1 := ⟨k - 1, by omega⟩
    have hys := ybef_succ y
    have hyb := ybef_mono (a := 1970) (b := y) h1
    simp only [pantryref02_Split.l0]
    rw [leap_ref]
    simp only [Option.bind_some]
    unfold lp at hys
    by_cases hlf : leapP y
    · rw [if_pos hlf] at hys
      rw [decide_eq_true hlf, if_pos rfl]
      by_cases hc : D - ybef y < 366
      · rw [if_pos hc]
        exact fin y k h1 (by omega) hl (by omega) (by omega)
      · rw [if_neg hc, w64 (x := y + 1) (by omega) (by omega), w64 (by omega) (by omega), show D - ybef y - 366 = D - ybef (y + 1) by omega]
        exact ih (y + 1) k (by omega) (by omega) (by omega) (by omega)
    · rw [if_neg hlf] at hys
      rw [decide_eq_false hlf, if_neg (by simp)]
      by_cases hc : D - ybef y < 365
      · rw [if_pos hc]
        exact fin y k h1 (by omega) hl (by omega) (by omega)
      · rw [if_neg hc, w64 (x := y + 1) (by omega) (by omega), w64 (by omega) (by omega), show D - ybef y - 365 = D - ybef (y + 1) by omega]
        exact ih (y + 1) k (by omega) (by omega) (by omega) (by omega)
theorem split_ref {t y m d r : Int} (h : IsDate t y m d r) (k : Nat) (hk : KD ≤ k) : pantryref02_Split.f k t = some (y, m, d, r) := by
  unfold KD at hk
  have hr := h.range
  unfold pantryref02_Split.f
  rw [tdiv_pos hr.1, w64 (x := t / 86400) (by omega) (by omega)]
  have h70 : ybef 1970 = 0 := by decide
  have := ref_l0 t (t / 86400) hr.1 hr.2 rfl 8029 1970 k (by omega) (by omega) (by omega) (by omega)
  rw [h70, Int.sub_zero] at this
  obtain ⟨y', m', d', e, h'⟩ := this
  obtain ⟨rfl, rfl, rfl, rfl⟩ := h.unique h'
  exact e
theorem rtwo_eq (n : Int) (h0 : 0 ≤ n) (h1 : n ≤ 99) : (rtwo n).data.toList = [dg (n / 10), dg n] := by
  unfold rtwo pantryref02_two.f strOfNums dg
  rw [tdiv_pos h0, tmod_pos h0, w64 (x := n / 10) (by omega) (by omega), w64 (x := 48 + n / 10) (by omega) (by omega), w64 (x := 48 + n % 10) (by omega) (by omega)]
  rw [show (48 + n / 10) % 256 = 48 + n / 10 % 10 by omega, show (48 + n % 10) % 256 = 48 + n % 10 by omega]
  rfl
theorem weekAt_eq (q : Int) (h0 : 0 ≤ q) (h1 : q ≤ 6) : (weekAt q.toNat).data.toList = wdB q := by
  rw [← wd_ext q h0 h1]
  unfold weekAt
  rw [show (q * 3).toNat = q.toNat * 3 by omega, show (q * 3 + 3).toNat = q.toNat * 3 + 3 by omega]
theorem monthAt_eq (m : Int) (h0 : 1 ≤ m) (h1 : m ≤ 12) : (monthAt m.toNat).data.toList = moB m := by
  rw [← mo_ext m h0 h1]
  unfold monthAt
  rw [show (3 * m - 3).toNat = 3 * m.toNat - 3 by omega, show (3 * m - 3 + 3).toNat = 3 * m.toNat - 3 + 3 by omega]
theorem refShowB_eq {t y m d r : Int} (h : IsDate t y m d r) : (refShowB t y m d r).data.toList = dateB t y m d r := by
  have hr := h.range
  have hml := mlen_bd y m
  have hy := h.y0; have hy' := h.y1; have hd := h.d0; have hd' := h.d1; have hr0 := h.r0; have hr1 := h.r1; have hm0 := h.m0; have hm1 := h.m1
  rw [dateB_eq h]
  unfold refShowB
  simp only [ByteArray.data_append, Array.toList_append]
  rw [weekAt_eq _ (by omega) (by omega), monthAt_eq m hm0 hm1, rtwo_eq d (by omega) (by omega), rtwo_eq (y / 100) (by omega) (by omega), rtwo_eq (y % 100) (by omega) (by omega), rtwo_eq (r / 3600) (by omega) (by omega), rtwo_eq (r / 60 % 60) (by omega) (by omega), rtwo_eq (r % 60) (by omega) (by omega)]
  have e1 : dg (y / 100 / 10) = dg (y / 1000) := by unfold dg; rw [show y / 100 / 10 = y / 1000 by omega]
  have e2 : dg (y % 100 / 10) = dg (y / 10) := by unfold dg; rw [show y % 100 / 10 % 10 = y / 10 % 10 by omega]
  have e3 : dg (y % 100) = dg y := by unfold dg; rw [show y % 100 % 10 = y % 10 by omega]
  rw [e1, e2, e3]
  simp
theorem refShow_of {t y m d r : Int} (h : IsDate t y m d r) (k : Nat) (hk : KD ≤ k) : pantryref02_Show.f k t = some (refShowB t y m d r) := by
  have hr := h.range
  have hml := mlen_bd y m
  unfold pantryref02_Show.f
  rw [split_ref h k hk]
  simp only [Option.bind_some]
  rw [if_pos ⟨hr, ⟨by have := h.y0; omega, h.y1⟩, ⟨h.m0, h.m1⟩, ⟨by have := h.d0; omega, by have := h.d1; omega⟩, h.r0, by have := h.r1; omega⟩]

/-! ## A text without commas is one element -/
theorem endL_whole : ∀ (n : Nat) (l : List UInt8) (q : Bool), l.length ≤ n → (∀ c ∈ l, c ≠ 44) → endL q l = l.length := by
  intro n
  induction n with
  | zero =>
    intro l q h _
    obtain rfl := List.eq_nil_of_length_eq_zero (by omega : l.length = 0)
    simp [endL]
  | succ n ih =>
    intro l q h hc
    match l, h, hc with
    | [], _, _ => simp [endL]
    | [c], _, hc =>
      have := hc c (by simp)
      unfold endL
      split
      · rfl
      · split
        · rfl
        · rw [if_neg (fun h => this h.2)]; rfl
    | c :: d :: l, h, hc =>
      simp only [List.length_cons] at h
      have h0 := hc c (by simp)
      have h1 := ih (d :: l) (!q) (by simp; omega) (fun x hx => hc x (List.mem_cons_of_mem _ hx))
      have h2 := ih l q (by omega) (fun x hx => hc x (List.mem_cons_of_mem _ (List.mem_cons_of_mem _ hx)))
      have h3 := ih (d :: l) q (by simp; omega) (fun x hx => hc x (List.mem_cons_of_mem _ hx))
      unfold endL
      simp only [List.length_cons] at *
      split
      · omega
      · split
        · omega
        · rw [if_neg (fun h => h0 h.2)]; omega
theorem dw_none {α : Type} {p : α → Bool} {l : List α} (h : ∀ x ∈ l, p x = false) : l.dropWhile p = l := by
  cases l with
  | nil => rfl
  | cons a l => rw [List.dropWhile_cons_of_neg (by rw [h a (by simp)]; simp)]
theorem trimL_whole (l : List UInt8) (h : ∀ c ∈ l, c ≠ 32 ∧ c ≠ 9) : trimL l = l := by
  have hp : ∀ x ∈ l, ([32, 9] : List UInt8).contains x = false := fun x hx => by
    obtain ⟨h1, h2⟩ := h x hx
    simp [h1, h2]
  unfold trimL Lib.trimS Lib.trimRightS Lib.trimLeftS
  rw [dw_none (l := l.reverse) (fun x hx => hp x (List.mem_reverse.1 hx)), List.reverse_reverse, dw_none hp]
theorem allV_snoc (n : ByteArray) (L : List S49) (f : S49) : allV n (L ++ [f]) = allV n L ++ (if sameB n f.f0 = true then [f.f1] else []) := by
  rw [allV_app]
  congr 1
  unfold allV
  by_cases h : sameB n f.f0 = true
  · rw [if_pos h, List.filter_cons_of_pos (by simpa [isOf] using h)]; rfl
  · rw [if_neg h, List.filter_cons_of_neg (by simpa [isOf] using h)]; rfl
theorem getB_of (n : ByteArray) (L : List S49) (t : ByteArray) (h : allV n L = [t]) : getB n L = t := by
  have e : (getB n L).toList = t.toList := by
    rw [getB_list, h]
    simp [joinB, Lib.join, ByteArray.toList_eq]
  rw [ByteArray.toList_eq, ByteArray.toList_eq] at e
  rw [← of_list (getB n L), e, of_list]
theorem getB_nil (n : ByteArray) (L : List S49) (h : allV n L = []) : getB n L = ⟨#[]⟩ := by
  unfold getB
  rw [h]
  rfl
theorem elemsB_of (n : ByteArray) (L : List S49) (t : ByteArray) (h : allV n L = [t]) (h0 : t ≠ ⟨#[]⟩) (hc : ∀ c ∈ t.data.toList, c ≠ 44 ∧ c ≠ 32 ∧ c ≠ 9) : elemsB n L = [t] := by
  unfold elemsB
  rw [getB_of n L t h, listL_last _ _ (endL_whole _ _ _ (Nat.le_refl _) fun c hx => (hc c hx).1)]
  unfold keepL
  rw [trimL_whole _ (fun c hx => (hc c hx).2)]
  have : t.data.toList ≠ [] := fun e => h0 (by rw [← of_list t, e]; rfl)
  rw [if_neg this]
  simp [of_list]
theorem elemsB_nil (n : ByteArray) (L : List S49) (h : allV n L = []) : elemsB n L = [] := by
  unfold elemsB
  rw [getB_nil n L h]
  rfl
/-- What is left out isn't there. -/
theorem allV_wout (n m : ByteArray) (ns : List ByteArray) (L : List S49) (hm : m ∈ ns) (hs : lowB n = lowB m) : allV n (wout ns L) = [] := by
  unfold allV
  rw [List.map_eq_nil_iff, List.filter_eq_nil_iff]
  intro f hf
  have h1 := wout_not hf
  intro hc
  rw [← isOf_low, hs, isOf_low] at hc
  have hc2 : sameB m f.f0 = true := by simpa [isOf] using hc
  have : isOf ns f = true := List.any_eq_true.2 ⟨m, hm, hc2⟩
  rw [this] at h1
  cases h1
theorem getB_size30 (n : ByteArray) (L : List S49) (h : SmallP L) : (getB n L).size ≤ 9060 := by
  have hle : (allV n L).length ≤ L.length := by
    unfold allV
    rw [List.length_map]
    exact List.length_filter_le _ _
  have := inter_len commaB.data.toList 300 ((allV n L).map (·.data.toList)) (fun x hx => by
    obtain ⟨y, hy, rfl⟩ := List.mem_map.1 hx
    unfold allV at hy
    obtain ⟨f, hf, rfl⟩ := List.mem_map.1 hy
    have := (h.2 f (List.mem_filter.1 hf).1).2
    simpa using this)
  rw [List.length_map] at this
  have h2 : (commaB.data.toList).length = 2 := rfl
  rw [h2] at this
  have h3 : (allV n L).length * (300 + 2) ≤ 30 * 302 := Nat.mul_le_mul_right _ (by have := h.1; omega)
  have h4 : (getB n L).size = (joinB (allV n L) commaB).length := by
    show (joinB (allV n L) commaB).toArray.size = _
    simp
  rw [h4]
  show (List.intercalate _ _).length ≤ _
  omega

/-! ## Dates that are read, asked for -/
def readV (s : ByteArray) : Int × Int := (date_Read.f (KD + 20) s).getD (0, 14)
theorem read_eval (s : ByteArray) (k : Nat) (hk : KD + 20 ≤ k) : date_Read.f k s = some (readV s) := by
  unfold readV
  rcases read_any s (KD + 20) (Nat.le_refl _) with ⟨e, hn⟩ | ⟨t, y, m, d, r, h, hs, e⟩
  · rw [e]
    rcases read_any s k hk with ⟨e', _⟩ | ⟨t, y, m, d, r, h, hs, _⟩
    · exact e'
    · exact absurd hs (hn t y m d r h)
  · rw [e]
    exact read_date h s hs k hk
theorem readV_nil : readV ⟨#[]⟩ = (0, 14) := by
  unfold readV
  rw [read_small _ (by decide)]
  rfl
def okD (n : ByteArray) (l : List S49) : Bool := (readV (getB n l)).2 == 0
def etagU : ByteArray := ⟨#[69, 84, 97, 103]⟩
def inmU : ByteArray := ⟨#[73, 102, 45, 78, 111, 110, 101, 45, 77, 97, 116, 99, 104]⟩
def imsU : ByteArray := ⟨#[73, 102, 45, 77, 111, 100, 105, 102, 105, 101, 100, 45, 83, 105, 110, 99, 101]⟩
def lamU : ByteArray := ⟨#[76, 97, 115, 116, 45, 77, 111, 100, 105, 102, 105, 101, 100]⟩
def askN : List ByteArray := [inmU, imsU, ⟨#[73, 102, 45, 77, 97, 116, 99, 104]⟩, ⟨#[73, 102, 45, 85, 110, 109, 111, 100, 105, 102, 105, 101, 100, 45, 83, 105, 110, 99, 101]⟩, ⟨#[73, 102, 45, 82, 97, 110, 103, 101]⟩, ⟨#[82, 97, 110, 103, 101]⟩]
theorem dated_eval (n : ByteArray) (l : List S49) (hn : n.size ≤ 1000) (h : SmallF l) (k : Nat) (hk : KD + 20 ≤ k) : pass_dated.f k l n = some ((readV (getB n l)).1, okD n l) := by
  unfold KD at hk
  have hl := h.1
  have g : field_List_Get.f k l n = some (getB n l, decide (0 < (allV n l).length)) := get_eval n l (by omega) h.2 (by omega) k (by omega)
  unfold pass_dated.f
  rw [g]
  simp only [Option.bind_some]
  rw [read_eval _ k (by unfold KD; omega)]
  rfl
theorem tag_eval (l : List S49) (h : SmallF l) (k : Nat) (hk : 1000 ≤ k) : pass_tag.f k l = some (getB etagU l) := by
  have hl := h.1
  have g : field_List_Get.f k l etagU = some (getB etagU l, decide (0 < (allV etagU l).length)) := get_eval etagU l (by decide) h.2 (by omega) k (by omega)
  have e : pass_tag.f k l = (field_List_Get.f k l etagU).bind fun b => some b.1 := rfl
  rw [e, g]
  rfl

/-! ## The document's reading of a date -/
theorem number_l0 (s : ByteArray) (hs : s.size ≤ 1000) (a n : Nat) (h : a + n ≤ s.size) : ∀ (d i : Nat) (v : Int) (k : Nat), i + d = a + n → d < k →
    pantryref12_number.l0 k s (a : Int) (n : Int) v (i : Int) = some (digitsL ((s.data.toList.drop i).take d) v) := by
  have e0 : wrap64 ((a : Int) + (n : Int)) = ((a + n : Nat) : Int) := by rw [w64 (by omega) (by omega)]; omega
  intro d
  induction d with
  | zero =>
    intro i v k hi hk
    obtain ⟨k, rfl⟩ : ∃ j, k = j + 1 := ⟨k - 1, by omega⟩
    simp only [pantryref12_number.l0]
    rw [e0, if_neg (by omega), List.take_zero]
    rfl
  | succ d ih =>
    intro i v k hi hk
    obtain ⟨k, rfl⟩ : ∃ j, k = j + 1 := ⟨k - 1, by omega⟩
    have hlt : i < s.data.toList.length := by rw [← size_list]; omega
    simp only [pantryref12_number.l0]
    rw [e0, if_pos (by omega), if_pos (by omega), if_pos (by omega), List.drop_eq_getElem_cons hlt, List.take_succ_cons, bt_list s i hlt]
    simp only [digitsL]
    by_cases h1 : (s.data.toList[i]).toNat < 48
    · rw [if_pos (by omega), if_pos (.inl h1)]
    · rw [if_neg (by omega)]
      by_cases h2 : 57 < (s.data.toList[i]).toNat
      · rw [if_pos (by omega), if_pos (.inr h2)]
      · rw [if_neg (by omega), if_neg (by omega)]
        have := ih (i + 1) (wrap64 (wrap64 (10 * v) + (((s.data.toList[i]).toNat : Int) - 48) % 256)) k (by omega) (by omega)
        rw [← this, w64 (x := (i : Int) + 1) (by omega) (by omega)]
        rfl
theorem number_eval (s : ByteArray) (hs : s.size ≤ 1000) (a n : Nat) (h : a + n ≤ s.size) (k : Nat) (hk : n < k) : pantryref12_number.f k s (a : Int) (n : Int) = some (fN s a n) := by
  unfold pantryref12_number.f
  exact number_l0 s hs a n h n a 0 k (by omega) hk
theorem four_of {l : List UInt8} (h : l.length = 4) : ∃ a b c d, l = [a, b, c, d] := by
  match l, h with
  | [a, b, c, d], _ => exact ⟨a, b, c, d, rfl⟩
theorem two_of {l : List UInt8} (h : l.length = 2) : ∃ a b, l = [a, b] := by
  match l, h with
  | [a, b], _ => exact ⟨a, b, rfl⟩
theorem fN2_bd (s : ByteArray) (h : s.size = 29) (a : Nat) (ha : a + 2 ≤ 29) : -1 ≤ fN s a 2 ∧ fN s a 2 ≤ 99 := by
  obtain ⟨x, y, e⟩ := two_of (l := (s.data.toList.drop a).take 2) (by rw [List.length_take, List.length_drop, ← size_list]; omega)
  unfold fN
  rw [e]
  exact digits2_bd x y
theorem fN4_bd (s : ByteArray) (h : s.size = 29) (a : Nat) (ha : a + 4 ≤ 29) : -1 ≤ fN s a 4 ∧ fN s a 4 ≤ 9999 := by
  obtain ⟨x, y, z, w, e⟩ := four_of (l := (s.data.toList.drop a).take 4) (by rw [List.length_take, List.length_drop, ← size_list]; omega)
  unfold fN
  rw [e]
  exact digits4_bd x y z w
theorem monGo_bd (x : ByteArray) : ∀ (q i : Nat) (m : Int), 0 ≤ m → m ≤ 12 → i + q ≤ 13 → 0 ≤ monGo x q i m ∧ monGo x q i m ≤ 12 := by
  intro q
  induction q with
  | zero => intro i m h0 h1 _; exact ⟨h0, h1⟩
  | succ q ih =>
    intro i m h0 h1 h
    simp only [monGo]
    split
    · exact ih (i + 1) _ (by omega) (by omega) (by omega)
    · exact ih (i + 1) _ h0 h1 (by omega)
theorem monGo_at (m : Int) (h0 : 1 ≤ m) (h1 : m ≤ 12) : monGo (monthAt m.toNat) 12 1 0 = m := by
  have hm : m = 1 ∨ m = 2 ∨ m = 3 ∨ m = 4 ∨ m = 5 ∨ m = 6 ∨ m = 7 ∨ m = 8 ∨ m = 9 ∨ m = 10 ∨ m = 11 ∨ m = 12 := by omega
  have mo : ∀ q i z, monGo (monthAt m.toNat) (q + 1) i z = monGo (monthAt m.toNat) q (i + 1) (if (monthAt i).data.toList = (monthAt m.toNat).data.toList then (i : Int) else z) := fun q i z => by simp only [monGo, toList_eq]
  rcases hm with rfl | rfl | rfl | rfl | rfl | rfl | rfl | rfl | rfl | rfl | rfl | rfl <;> (rw [mo, mo, mo, mo, mo, mo, mo, mo, mo, mo, mo, mo]; decide +kernel)
theorem date_parts {t y m d r : Int} (h : IsDate t y m d r) (s : ByteArray) (hs : s.data.toList = dateB t y m d r) :
    s.size = 29 ∧ monNo s = m ∧ fN s 12 4 = y ∧ fN s 5 2 = d ∧ fN s 17 2 = r / 3600 ∧ fN s 20 2 = r / 60 % 60 ∧ fN s 23 2 = r % 60 := by
  have h29 : s.size = 29 := by rw [size_list, hs, dateB_len h]
  have e := dateB_eq h
  obtain ⟨a1, a2, a3, ea⟩ := wd_three (t / 86400 % 7)
  obtain ⟨b1, b2, b3, eb⟩ := mo_three m
  rw [ea, eb] at e
  have hd1 := (mlen_bd y m).2
  have hy := h.y0; have hy' := h.y1; have hd := h.d0; have hd' := h.d1; have hr0 := h.r0; have hr1 := h.r1; have hm0 := h.m0; have hm1 := h.m1
  refine ⟨h29, ?_, ?_, ?_, ?_, ?_, ?_⟩
  · have ex : s.extract 8 11 = monthAt m.toNat := by
      apply bytes_ext
      rw [ext_list, monthAt_eq m hm0 hm1, hs, e, eb]
      rfl
    unfold monNo
    rw [ex]
    exact monGo_at m hm0 hm1
  · unfold fN; rw [hs, e]; exact digits4 y (by omega) (by omega)
  · unfold fN; rw [hs, e]; exact digits2 d (by omega) (by omega)
  · unfold fN; rw [hs, e]; exact digits2 (r / 3600) (by omega) (by omega)
  · unfold fN; rw [hs, e]; exact digits2 (r / 60 % 60) (by omega) (by omega)
  · unfold fN; rw [hs, e]; exact digits2 (r % 60) (by omega) (by omega)
/-- The end of it: the time that was counted, if its date is the text. -/
def rEnd (s : ByteArray) (T : Int) (k : Nat) : Option (Int × Bool) := if T < 0 then some (0, false) else if T > 253402300799 then some (0, false) else (pantryref02_Show.f k T).bind fun b => if b.toList = s.toList then some (T, true) else some (0, false)
theorem r12_l1 (s : ByteArray) (h29 : s.size = 29) (y m c : Int) (hy0 : 1970 ≤ y) (hy1 : y ≤ 9999) (hm0 : 1 ≤ m) (hm1 : m ≤ 12) (hc0 : 0 ≤ c) (hc1 : c ≤ 3000000) : ∀ (n : Nat) (x : Int) (k : Nat), x + n = m → 1 ≤ x → KD + n + 2 ≤ k →
    ∃ k', KD ≤ k' ∧ pantryref12_Read.l1 k s m y (c + mbef y x) x = rEnd s ((c + mbef y m) * 86400 + fN s 17 2 * 3600 + fN s 20 2 * 60 + fN s 23 2) k' := by
  intro n
  induction n with
  | zero =>
    intro x k hx h1 hk
    obtain ⟨k, rfl⟩ : ∃ j, k = j + 1 := ⟨k - 1, by omega⟩
    obtain rfl : x = m := by omega
    have hb := mbef_bd y x (by omega) (by omega)
    have b1 := fN2_bd s h29 17 (by omega)
    have b2 := fN2_bd s h29 20 (by omega)
    have b3 := fN2_bd s h29 23 (by omega)
    have hKD : KD = 9000 := rfl
    have n1 : pantryref12_number.f k s 17 2 = some (fN s 17 2) := number_eval s (by omega) 17 2 (by omega) k (by omega)
    have n2 : pantryref12_number.f k s 20 2 = some (fN s 20 2) := number_eval s (by omega) 20 2 (by omega) k (by omega)
    have n3 : pantryref12_number.f k s 23 2 = some (fN s 23 2) := number_eval s (by omega) 23 2 (by omega) k (by omega)
    refine ⟨k, by omega, ?_⟩
    simp only [pantryref12_Read.l1]
    rw [if_neg (by omega), n1]
    simp only [Option.bind_some]
    rw [n2]
    simp only [Option.bind_some]
    rw [n3]
    simp only [Option.bind_some]
    generalize fN s 17 2 = a at *
    generalize fN s 20 2 = b at *
    generalize fN s 23 2 = d at *
    rw [w64 (x := (c + mbef y x) * 86400) (by omega) (by omega), w64 (x := a * 3600) (by omega) (by omega), w64 (x := b * 60) (by omega) (by omega), w64 (x := (c + mbef y x) * 86400 + a * 3600) (by omega) (by omega),
      w64 (x := (c + mbef y x) * 86400 + a * 3600 + b * 60) (by omega) (by omega), w64 (x := (c + mbef y x) * 86400 + a * 3600 + b * 60 + d) (by omega) (by omega)]
    rfl
  | succ n ih =>
    intro x k hx h1 hk
    obtain ⟨k, rfl⟩ : ∃ j, k = j + 1 := ⟨k - 1, by omega⟩
    have hb := mbef_bd y x (by omega) (by omega)
    have hsu := mbef_succ y x (by omega) (by omega)
    have hml := mlen_bd y x
    obtain ⟨k', hk', e⟩ := ih (x + 1) k (by omega) (by omega) (by omega)
    refine ⟨k', hk', ?_⟩
    simp only [pantryref12_Read.l1]
    rw [if_pos (by omega), days_ref]
    simp only [Option.bind_some]
    rw [daysI_in hy0 hy1 (by omega) (by omega), w64 (x := x + 1) (by omega) (by omega), w64 (by omega) (by omega), ← e, hsu]
    rw [show c + mbef y x + mlen y x = c + (mbef y x + mlen y x) from by omega]
theorem r12_l0 (s : ByteArray) (h29 : s.size = 29) (y m c : Int) (hy0 : 1970 ≤ y) (hy1 : y ≤ 9999) (hm0 : 1 ≤ m) (hm1 : m ≤ 12) (hc0 : 0 ≤ c) (hc1 : c ≤ 100) : ∀ (n : Nat) (x : Int) (k : Nat), x + n = y → 1970 ≤ x → KD + n + 20 ≤ k →
    ∃ k', KD ≤ k' ∧ pantryref12_Read.l0 k s m y (c + ybef x) x = rEnd s ((c + ybef y + mbef y m) * 86400 + fN s 17 2 * 3600 + fN s 20 2 * 60 + fN s 23 2) k' := by
  have hyt := ybef_mono (a := y) (b := 9999) hy1
  have h70 : ybef 1970 = 0 := by decide
  have h99 : ybef 9999 = 2932532 := by decide
  intro n
  induction n with
  | zero =>
    intro x k hx h1 hk
    obtain ⟨k, rfl⟩ : ∃ j, k = j + 1 := ⟨k - 1, by omega⟩
    obtain rfl : x = y := by omega
    have hxb := ybef_mono (a := 1970) (b := x) h1
    obtain ⟨k', hk', e⟩ := r12_l1 s h29 x m (c + ybef x) hy0 hy1 hm0 hm1 (by omega) (by omega) (m - 1).toNat 1 k (by omega) (by omega) (by omega)
    refine ⟨k', hk', ?_⟩
    simp only [pantryref12_Read.l0]
    rw [if_neg (by omega), ← e, mbef_1, Int.add_zero]
  | succ n ih =>
    intro x k hx h1 hk
    obtain ⟨k, rfl⟩ : ∃ j, k = j + 1 := ⟨k - 1, by omega⟩
    have hxb := ybef_mono (a := 1970) (b := x) h1
    have hxy := ybef_mono (a := x) (b := y) (by omega)
    have hsu := ybef_succ x
    obtain ⟨k', hk', e⟩ := ih (x + 1) k (by omega) (by omega) (by omega)
    refine ⟨k', hk', ?_⟩
    simp only [pantryref12_Read.l0]
    rw [if_pos (by omega), leap_ref]
    simp only [Option.bind_some]
    rw [w64 (x := x + 1) (by omega) (by omega), w64 (x := c + ybef x + 365) (by omega) (by omega), w64 (by omega) (by omega), ← e, hsu]
    unfold lp
    by_cases hl : leapP x
    · rw [if_pos (decide_eq_true hl), if_pos hl]
      rw [show c + ybef x + 365 + 1 = c + (ybef x + 365 + 1) from by omega]
    · rw [if_neg (by rw [decide_eq_false hl]; simp), if_neg hl]
      rw [show c + ybef x + 365 = c + (ybef x + 365 + 0) from by omega]
def r12V (s : ByteArray) : Int × Bool := if (readV s).2 = 0 then ((readV s).1, true) else (0, false)
theorem r12_eval (s : ByteArray) (k : Nat) (hk : 30000 ≤ k) : pantryref12_Read.f k s = some (r12V s) := by
  have jt : ∀ a b c, pantryref12_Read.j0 k s a b c true = some (0, false) := fun a b c => by
    obtain ⟨k, rfl⟩ : ∃ j, k = j + 1 := ⟨k - 1, by omega⟩
    simp [pantryref12_Read.j0]
  unfold pantryref12_Read.f
  by_cases h29 : s.size = 29
  · have b4 := fN4_bd s h29 12 (by omega)
    have b2 := fN2_bd s h29 5 (by omega)
    have bm := monGo_bd (s.extract 8 11) 12 1 0 (by omega) (by omega) (by omega)
    have n1 : pantryref12_number.f k s 12 4 = some (fN s 12 4) := number_eval s (by omega) 12 4 (by omega) k (by omega)
    have n2 : pantryref12_number.f k s 5 2 = some (fN s 5 2) := number_eval s (by omega) 5 2 (by omega) k (by omega)
    rw [if_pos (by omega)]
    simp only [Option.bind_some]
    rw [n1]
    simp only [Option.bind_some]
    rw [n2]
    simp only [Option.bind_some]
    have hany := read_any s (KD + 20) (Nat.le_refl _)
    have good : monNo s ≠ 0 → ¬ fN s 12 4 < 1970 → ¬ fN s 5 2 < 1 → pantryref12_Read.j0 k s (monNo s) (fN s 12 4) (fN s 5 2) false = some (r12V s) := by
      intro g1 g2 g3
      obtain ⟨k, rfl⟩ : ∃ j, k = j + 1 := ⟨k - 1, by omega⟩
      unfold monNo at g1
      obtain ⟨k', hk', e⟩ := r12_l0 s h29 (fN s 12 4) (monNo s) (fN s 5 2 - 1) (by omega) (by omega) (by unfold monNo; omega) (by unfold monNo; omega) (by omega) (by omega) (fN s 12 4 - 1970).toNat 1970 k (by omega) (by omega) (by unfold KD; omega)
      have e2 : pantryref12_Read.j0 (k + 1) s (monNo s) (fN s 12 4) (fN s 5 2) false = pantryref12_Read.l0 k s (monNo s) (fN s 12 4) (wrap64 (fN s 5 2 - 1)) 1970 := by
        simp only [pantryref12_Read.j0]
        rw [if_neg (by simp)]
      have h70 : ybef 1970 = 0 := by decide
      rw [e2, w64 (by omega) (by omega)]
      rw [h70, Int.add_zero] at e
      rw [e]
      rcases hany with ⟨er, hn⟩ | ⟨t, y, m, d, r, h, hs, er⟩
      · have hv : r12V s = (0, false) := by unfold r12V readV; rw [er]; rfl
        rw [hv]
        unfold rEnd
        generalize (fN s 5 2 - 1 + ybef (fN s 12 4) + mbef (fN s 12 4) (monNo s)) * 86400 + fN s 17 2 * 3600 + fN s 20 2 * 60 + fN s 23 2 = T
        by_cases t0 : T < 0
        · rw [if_pos t0]
        · rw [if_neg t0]
          by_cases t1 : T > 253402300799
          · rw [if_pos t1]
          · rw [if_neg t1]
            obtain ⟨y, m, d, h⟩ := IsDate.exists T (by omega) (by omega)
            rw [refShow_of h k' hk']
            simp only [Option.bind_some]
            rw [if_neg]
            rw [toList_eq, toList_eq, refShowB_eq h]
            exact fun e => hn _ _ _ _ _ h e.symm
      · obtain ⟨_, p1, p2, p3, p4, p5, p6⟩ := date_parts h s hs
        have hr := h.range
        have ht := h.eq
        have hr0 := h.r0
        have eT : (fN s 5 2 - 1 + ybef (fN s 12 4) + mbef (fN s 12 4) (monNo s)) * 86400 + fN s 17 2 * 3600 + fN s 20 2 * 60 + fN s 23 2 = t := by
          rw [p1, p2, p3, p4, p5, p6, ht]
          omega
        have hv : r12V s = (t, true) := by unfold r12V readV; rw [er]; rfl
        rw [hv, eT]
        unfold rEnd
        rw [if_neg (by omega), if_neg (by omega), refShow_of h k' hk']
        simp only [Option.bind_some]
        rw [if_pos (by rw [toList_eq, toList_eq, refShowB_eq h, hs])]
    have bad : monNo s = 0 ∨ fN s 12 4 < 1970 ∨ fN s 5 2 < 1 → some ((0 : Int), false) = some (r12V s) := by
      intro hb
      rcases hany with ⟨er, hn⟩ | ⟨t, y, m, d, r, h, hs, er⟩
      · have hv : r12V s = (0, false) := by unfold r12V readV; rw [er]; rfl
        rw [hv]
      · obtain ⟨_, p1, p2, p3, _, _, _⟩ := date_parts h s hs
        have := h.m0; have := h.y0; have := h.d0
        rw [p1, p2, p3] at hb
        omega
    by_cases g1 : monNo s = 0
    · rw [if_pos g1, jt]; exact bad (.inl g1)
    · rw [if_neg g1]
      by_cases g2 : fN s 12 4 < 1970
      · rw [if_pos g2, jt]; exact bad (.inr (.inl g2))
      · rw [if_neg g2]
        by_cases g3 : fN s 5 2 < 1
        · rw [decide_eq_true g3, jt]; exact bad (.inr (.inr g3))
        · rw [decide_eq_false g3]; exact good g1 g2 g3
  · rw [if_neg (by omega)]
    have hv : r12V s = (0, false) := by unfold r12V readV; rw [read_small s h29]; rfl
    rw [hv]

/-! ## What is asked -/
def askV (req came : List S49) : List S49 :=
  (if (getB etagU came).toList = [] then wout askN (onwardV req) else wout askN (onwardV req) ++ [⟨inmU, getB etagU came⟩]) ++ (if okD lamU came = true then [⟨imsU, getB lamU came⟩] else [])
theorem onward_small (l : List S49) (h : SmallP l) : (onwardV l).length ≤ 31 ∧ ∀ f ∈ onwardV l, f.f0.size ≤ 200 ∧ f.f1.size ≤ 9100 := by
  have hw := wout_len [viaU] (stripV l)
  have hs := wout_len (stripN l) l
  have hl := h.1
  have hm : (markV l).size ≤ 9072 := by
    have := getB_size30 viaU l h
    have s1 : commaB.size = 2 := rfl
    have s2 : nameB.size = 10 := rfl
    unfold markV
    rw [ByteArray.size_append]
    split
    · rw [ByteArray.size_append]; omega
    · omega
  unfold onwardV
  refine ⟨?_, fun f hf => ?_⟩
  · rw [List.length_append, List.length_singleton]
    unfold stripV at *
    omega
  · rcases List.mem_append.1 hf with hf | hf
    · have := h.2 f (wout_mem (wout_mem hf))
      omega
    · obtain rfl := List.mem_singleton.1 hf
      have s3 : viaU.size = 3 := rfl
      simp only
      omega
theorem ask_small (req came : List S49) (h : SmallP req) (h' : SmallP came) : SmallF (askV req came) := by
  obtain ⟨o1, o2⟩ := onward_small req h
  have hw := wout_len askN (onwardV req)
  have t1 := getB_size30 etagU came h'
  have t2 := getB_size30 lamU came h'
  have s1 : inmU.size = 13 := rfl
  have s2 : imsU.size = 17 := rfl
  have hA : (if (getB etagU came).toList = [] then wout askN (onwardV req) else wout askN (onwardV req) ++ [⟨inmU, getB etagU came⟩]).length ≤ 32 ∧ ∀ f ∈ (if (getB etagU came).toList = [] then wout askN (onwardV req) else wout askN (onwardV req) ++ [⟨inmU, getB etagU came⟩]), f.f0.size ≤ 200 ∧ f.f1.size ≤ 9100 := by
    split
    · exact ⟨by omega, fun f hf => o2 f (wout_mem hf)⟩
    · refine ⟨by rw [List.length_append, List.length_singleton]; omega, fun f hf => ?_⟩
      rcases List.mem_append.1 hf with hf | hf
      · exact o2 f (wout_mem hf)
      · obtain rfl := List.mem_singleton.1 hf
        simp only
        omega
  unfold askV
  generalize (if (getB etagU came).toList = [] then wout askN (onwardV req) else wout askN (onwardV req) ++ [⟨inmU, getB etagU came⟩]) = A at hA ⊢
  refine ⟨?_, fun f hf => ?_⟩
  · rw [List.length_append]
    have hA1 := hA.1
    split
    · rw [List.length_singleton]; omega
    · rw [List.length_nil]; omega
  · rcases List.mem_append.1 hf with hf | hf
    · exact hA.2 f hf
    · split at hf
      · obtain rfl := List.mem_singleton.1 hf
        simp only
        omega
      · cases hf
theorem ask_eval (req came : List S49) (h : SmallP req) (h' : SmallP came) (k : Nat) (hk : 4000100 < k) : pass_Asking.f k req came = some (askV req came) := by
  have e : pass_Asking.f k req came = ((pass_Onward.f k req).bind fun a => (field_List_Without.f k a askN).bind fun b => (pass_tag.f k came).bind fun t => if t.toList = ([] : List UInt8) then pass_Asking.j0 k came b else if b.length < 4398046511104 then pass_Asking.j0 k came (b ++ [⟨inmU, t⟩]) else none) := rfl
  have h'F := h'.F
  have hcl := h'F.1
  obtain ⟨o1, o2⟩ := onward_small req h
  have hw := wout_len askN (onwardV req)
  have w : field_List_Without.f k (onwardV req) askN = some (wout askN (onwardV req)) := wout_f askN (onwardV req) (by decide) (by decide) (fun x hx => by have := (o2 x hx).1; omega) (by omega) k (by omega)
  have fin : ∀ b : List S49, b.length ≤ 40 → pass_Asking.j0 k came b = some (b ++ (if okD lamU came = true then [⟨imsU, getB lamU came⟩] else [])) := by
    intro b hb
    obtain ⟨k, rfl⟩ : ∃ j, k = j + 1 := ⟨k - 1, by omega⟩
    have e2 : pass_Asking.j0 (k + 1) came b = ((pass_dated.f k came lamU).bind fun a => if a.2 = true then ((field_List_Get.f k came lamU).bind fun g => if b.length < 4398046511104 then some (b ++ [⟨imsU, g.1⟩]) else none) else some b) := rfl
    rw [e2, dated_eval lamU came (by decide) h'F k (by unfold KD; omega)]
    simp only [Option.bind_some]
    by_cases hc : okD lamU came = true
    · have g : field_List_Get.f k came lamU = some (getB lamU came, decide (0 < (allV lamU came).length)) := get_eval lamU came (by decide) h'F.2 (by omega) k (by omega)
      rw [if_pos hc, g, if_pos hc]
      simp only [Option.bind_some]
      rw [if_pos (by omega)]
    · rw [if_neg hc, if_neg hc, List.append_nil]
  rw [e, onward_eval req h.F k (by omega)]
  simp only [Option.bind_some]
  rw [w]
  simp only [Option.bind_some]
  rw [tag_eval came h'F k (by omega)]
  simp only [Option.bind_some]
  unfold askV
  by_cases hc : (getB etagU came).toList = []
  · rw [if_pos hc, if_pos hc, fin _ (by omega)]
  · rw [if_neg hc, if_neg hc, if_pos (by omega), fin _ (by rw [List.length_append, List.length_singleton]; omega)]

theorem allV_low (n : ByteArray) (l : List S49) : allV (lowB n) l = allV n l := by unfold allV; rw [isOf_low]
theorem getB_low (n : ByteArray) (l : List S49) : getB (lowB n) l = getB n l := by unfold getB; rw [allV_low]
theorem elemsB_low (n : ByteArray) (l : List S49) : elemsB (lowB n) l = elemsB n l := by unfold elemsB; rw [getB_low]

theorem conn_low : connL = lowB connU := by decide +kernel
theorem via_low : viaL = lowB viaU := by decide +kernel
theorem fix_low : fixL = fixU.map lowB := by decide +kernel
theorem fixL_sizes : ∀ n ∈ fixL, n.size ≤ 100 := by decide +kernel
theorem rstrip_eval (l : List S49) (h : SmallF l) (k : Nat) (hk : 4000100 < k) : pantryref13_Strip.f k (l.map conv) = some ((stripV l).map conv) := by
  have e : pantryref13_Strip.f k (l.map conv) = ((pantryref03_Elements.f k (l.map conv) connL).bind fun t => (pantryref13_without.f k (l.map conv) t).bind fun u => (pantryref13_without.f k u fixL).bind fun x => some x) := rfl
  obtain ⟨e1, e2⟩ := elems_ok connU l h
  rw [e, relems_eval connL l (by decide) h k hk, conn_low, elemsB_low]
  simp only [Option.bind_some]
  rw [rwithout_eval l h _ (fun n hn => by have := e2 n hn; omega) (by omega) k (by omega)]
  simp only [Option.bind_some]
  rw [rwithout_eval _ (SmallF_wout h _) fixL (fun n hn => by have := fixL_sizes n hn; omega) (by decide) k (by omega)]
  simp only [Option.bind_some]
  rw [wout_wout]
  congr 2
  exact wout_congr (fun f => by unfold stripN; rw [isOf_append, isOf_append, fix_low, isOf_map_low]) l
theorem psame_eval (l : List S49) (hl : l.length ≤ 1000) (k : Nat) (hk : 2000 < k) : pantrylaw13_same.f k l (l.map conv) = some true := by
  unfold pantrylaw13_same.f
  rw [made_eval l (by omega) k (by omega)]
  simp only [Option.bind_some]
  rw [same_eval _ (by rw [List.length_map]; omega) k (by rw [List.length_map]; omega)]
  rfl

theorem ronward_eval (l : List S49) (h : SmallF l) (k : Nat) (hk : 4000100 < k) : pantryref13_Onward.f k (l.map conv) = some ((onwardV l).map conv) := by
  have e : pantryref13_Onward.f k (l.map conv) = ((pantryref03_Get.f k (l.map conv) viaL).bind fun bt => (if bt.2 > 0 then (if bt.1.size + 2 ≤ 9223372036854775807 then ((pantryref13_Strip.f k (l.map conv)).bind fun t => ((pantryref03_Without.f k t viaL).bind fun u => (if (bt.1 ++ commaB).size + 10 ≤ 9223372036854775807 then (if u.length < 4398046511104 then some (u ++ [⟨viaU, (bt.1 ++ commaB) ++ nameB⟩]) else none) else none))) else none) else ((pantryref13_Strip.f k (l.map conv)).bind fun t => ((pantryref03_Without.f k t viaL).bind fun u => (if bt.1.size + 10 ≤ 9223372036854775807 then (if u.length < 4398046511104 then some (u ++ [⟨viaU, bt.1 ++ nameB⟩]) else none) else none))))) := rfl
  have hs := SmallF_strip h
  have hsl := hs.1
  have w : pantryref03_Without.f k ((stripV l).map conv) viaL = some ((wout [viaU] (stripV l)).map conv) := by
    rw [rwone_f viaL (stripV l) (by decide) hs k (by omega)]
    exact congrArg (fun z => some (z.map conv)) (wout_congr (A := [viaL]) (B := [viaU]) (fun f => by rw [via_low, isOf_low]) (stripV l))
  have hw := wout_len [viaU] (stripV l)
  have hg := getB_size viaU l h
  have s1 : commaB.size = 2 := rfl
  rw [e, rget_eval viaL l (by decide) h k (by omega), via_low, getB_low, allV_low]
  simp only [Option.bind_some]
  rw [rstrip_eval l h k hk]
  simp only [Option.bind_some]
  rw [← via_low, w]
  simp only [Option.bind_some]
  rw [List.length_map]
  unfold onwardV markV
  rw [List.map_append]
  by_cases hc : 0 < (allV viaU l).length
  · rw [if_pos (by omega), if_pos (by omega), if_pos (by rw [ByteArray.size_append]; omega), if_pos (by omega), if_pos hc]
    rfl
  · rw [if_neg (by omega), if_pos (by omega), if_pos (by omega), if_neg hc]
    rfl

/-! ## PassAsks -/
def inmL : ByteArray := ⟨#[105, 102, 45, 110, 111, 110, 101, 45, 109, 97, 116, 99, 104]⟩
def imsL : ByteArray := ⟨#[105, 102, 45, 109, 111, 100, 105, 102, 105, 101, 100, 45, 115, 105, 110, 99, 101]⟩
def lamL : ByteArray := ⟨#[108, 97, 115, 116, 45, 109, 111, 100, 105, 102, 105, 101, 100]⟩
def etagL : ByteArray := ⟨#[101, 116, 97, 103]⟩
def askL : List ByteArray := [inmL, imsL, ⟨#[105, 102, 45, 109, 97, 116, 99, 104]⟩, ⟨#[105, 102, 45, 117, 110, 109, 111, 100, 105, 102, 105, 101, 100, 45, 115, 105, 110, 99, 101]⟩, ⟨#[105, 102, 45, 114, 97, 110, 103, 101]⟩, ⟨#[114, 97, 110, 103, 101]⟩]
theorem ask_lows : lamL = lowB lamU ∧ etagL = lowB etagU ∧ askL = askN.map lowB := by decide +kernel
theorem askL_sizes : ∀ n ∈ askL, n.size ≤ 100 := by decide +kernel
theorem rdated_eval (n : ByteArray) (l : List S49) (hn : n.size ≤ 1000) (h : SmallF l) (k : Nat) (hk : 30000 ≤ k) : pantryref12_Dated.f k (l.map conv) n = some (r12V (getB n l)) := by
  unfold pantryref12_Dated.f
  rw [rget_eval n l hn h k (by omega)]
  simp only [Option.bind_some]
  rw [r12_eval _ k hk]
  rfl
theorem r12_ok (s : ByteArray) : (r12V s).2 = ((readV s).2 == 0) := by
  unfold r12V
  by_cases h : (readV s).2 = 0
  · rw [if_pos h]
    exact (beq_iff_eq.mpr h).symm
  · rw [if_neg h]
    exact (beq_eq_false_iff_ne.mpr h).symm
theorem rask_eval (req came : List S49) (h : SmallP req) (h' : SmallP came) (k : Nat) (hk : 5000100 < k) : pantryref13_Asking.f k (req.map conv) (came.map conv) = some ((askV req came).map conv) := by
  have e : pantryref13_Asking.f k (req.map conv) (came.map conv) = ((pantryref13_Onward.f k (req.map conv)).bind fun a => (pantryref13_without.f k a askL).bind fun b => (pantryref03_Get.f k (came.map conv) etagL).bind fun t => if t.1.toList = ([] : List UInt8) then pantryref13_Asking.j0 k (came.map conv) b else if b.length < 4398046511104 then pantryref13_Asking.j0 k (came.map conv) (b ++ [⟨inmU, t.1⟩]) else none) := rfl
  have h'F := h'.F
  obtain ⟨w1, w2, w3⟩ := ask_lows
  obtain ⟨o1, o2⟩ := onward_small req h
  have hO : SmallF (onwardV req) := ⟨by omega, o2⟩
  have hw := wout_len askN (onwardV req)
  have w : pantryref13_without.f k ((onwardV req).map conv) askL = some ((wout askN (onwardV req)).map conv) := by
    rw [rwithout_eval _ hO askL (fun n hn => by have := askL_sizes n hn; omega) (by decide) k (by omega)]
    exact congrArg (fun z => some (z.map conv)) (wout_congr (A := askL) (B := askN) (fun f => by rw [w3, isOf_map_low]) (onwardV req))
  have fin : ∀ b : List S49, b.length ≤ 40 → pantryref13_Asking.j0 k (came.map conv) (b.map conv) = some ((b ++ (if okD lamU came = true then [(⟨imsU, getB lamU came⟩ : S49)] else [])).map conv) := by
    intro b hb
    obtain ⟨k, rfl⟩ : ∃ j, k = j + 1 := ⟨k - 1, by omega⟩
    have e2 : pantryref13_Asking.j0 (k + 1) (came.map conv) (b.map conv) = ((pantryref12_Dated.f k (came.map conv) lamL).bind fun a => if a.2 = true then ((pantryref03_Get.f k (came.map conv) lamL).bind fun g => if (b.map conv).length < 4398046511104 then some (b.map conv ++ [⟨imsU, g.1⟩]) else none) else some (b.map conv)) := rfl
    rw [e2, rdated_eval lamL came (by decide) h'F k (by omega), w1, getB_low]
    simp only [Option.bind_some]
    rw [r12_ok]
    by_cases hc : okD lamU came = true
    · rw [if_pos (show ((readV (getB lamU came)).2 == 0) = true from hc), ← w1, rget_eval lamL came (by decide) h'F k (by omega), w1, getB_low, if_pos hc]
      simp only [Option.bind_some]
      rw [if_pos (by rw [List.length_map]; omega), List.map_append]
      rfl
    · rw [if_neg (show ¬ ((readV (getB lamU came)).2 == 0) = true from hc), if_neg hc, List.append_nil]
  rw [e, ronward_eval req h.F k (by omega)]
  simp only [Option.bind_some]
  rw [w]
  simp only [Option.bind_some]
  rw [rget_eval etagL came (by decide) h'F k (by omega), w2, getB_low]
  simp only [Option.bind_some]
  unfold askV
  by_cases hc : (getB etagU came).toList = []
  · rw [if_pos hc, if_pos hc, fin _ (by omega)]
  · have hm : (wout askN (onwardV req)).map conv ++ [(⟨inmU, getB etagU came⟩ : S53)] = (wout askN (onwardV req) ++ [(⟨inmU, getB etagU came⟩ : S49)]).map conv := by rw [List.map_append]; rfl
    rw [if_neg hc, if_neg hc, if_pos (by rw [List.length_map]; omega), hm, fin _ (by rw [List.length_append, List.length_singleton]; omega)]
theorem law_PassAsks (l0 l1 : List S49) (h0 : l0.length ≤ 9223372036854775807) (h1 : l1.length ≤ 9223372036854775807) : ∃ k, pantrylaw13_PassAsks.f k l0 l1 = some true := by
  obtain ⟨K, hK⟩ : ∃ K, l0.length + l1.length + 6000000 ≤ K := ⟨_, Nat.le_refl _⟩
  refine ⟨K + 1, ?_⟩
  have jt : pantrylaw13_PassAsks.j0 (K + 1) l0 l1 true = some true := by simp [pantrylaw13_PassAsks.j0]
  unfold pantrylaw13_PassAsks.f
  rw [anchor_ok _ (by omega)]
  simp only [Option.bind_some]
  rw [if_pos trivial]
  obtain ⟨b, hb, hs⟩ := small_eval l0 h0 (K + 1) (by omega)
  rw [hb]
  simp only [Option.bind_some]
  cases b with
  | false => rw [if_neg (by simp)]; exact jt
  | true =>
    obtain ⟨b, hb, hs'⟩ := small_eval l1 h1 (K + 1) (by omega)
    rw [if_pos rfl, hb]
    simp only [Option.bind_some]
    cases b with
    | false => exact jt
    | true =>
      have s0 := hs rfl
      have s1 := hs' rfl
      have a0 := s0.F.1
      have a1 := s1.F.1
      have hA := ask_small l0 l1 s0 s1
      have hAl := hA.1
      show pantrylaw13_PassAsks.j0 (K + 1) l0 l1 false = some true
      simp only [pantrylaw13_PassAsks.j0]
      rw [if_neg (by simp), ask_eval l0 l1 s0 s1 K (by omega)]
      simp only [Option.bind_some]
      rw [made_eval l0 (by omega) K (by omega)]
      simp only [Option.bind_some]
      rw [made_eval l1 (by omega) K (by omega)]
      simp only [Option.bind_some]
      rw [rask_eval l0 l1 s0 s1 K (by omega)]
      simp only [Option.bind_some]
      rw [psame_eval _ (by omega) K (by omega)]
      rfl

end Go.Proofs.YtcechlbeghcliaaDoor.PAll
