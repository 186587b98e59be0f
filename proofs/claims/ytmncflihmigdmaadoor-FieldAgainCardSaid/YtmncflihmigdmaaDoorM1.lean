import Derived.Test.YtmncflihmigdmaaDoorPAllx0
import Derived.Test.YtmncflihmigdmaaDoorPAllx1
import Derived.Test.YtmncflihmigdmaaDoorPAllx2
import Derived.Test.YtmncflihmigdmaaDoorPAllx3
import Derived.Test.YtmncflihmigdmaaDoorPAllx4
import Derived.Test.YtmncflihmigdmaaDoorPAllx5
import Derived.Test.YtmncflihmigdmaaDoorPAllx6
import Derived.Lib.Join
namespace Go.Proofs.YtmncflihmigdmaaDoor.PAll
open Go.RowKit Go.Proofs.YtmncflihmigdmaaDoorW.PrintWords Go.Proofs.YtmncflihmigdmaaDoorW.PrintLast Go.Proofs.YtmncflihmigdmaaDoorW.PrintMore
set_option linter.unusedVariables false
set_option linter.unusedSimpArgs false

/-! ## Fields, as lists -/
theorem anchor60 : pantrylaw03_anchor.f 60 = some true := by decide +kernel
theorem anchor_ok (k : Nat) (hk : 60 ≤ k) : pantrylaw03_anchor.f k = some true := by
  obtain ⟨j, rfl⟩ : ∃ j, k = 60 + j := ⟨k - 60, by omega⟩
  clear hk
  induction j with
  | zero => exact anchor60
  | succ j ih => exact pantrylaw03_anchor.mono _ _ ih
theorem rd39 (l : List S39) (i : Nat) (h : i < l.length) : rd_T39 l (i : Int) = l[i] := by simp [rd_T39, h]
theorem rdB (l : List ByteArray) (i : Nat) (h : i < l.length) : rdOf ByteArray.empty l (i : Int) = l[i] := by simp [rdOf, h]
def SmallF (l : List S39) : Prop := l.length ≤ 70 ∧ ∀ f ∈ l, f.f0.size ≤ 200 ∧ f.f1.size ≤ 1100
theorem small_l0 (l : List S39) (hl : l.length ≤ 9223372036854775807) : ∀ (d i k : Nat), i + d = l.length → d < k →
    ∃ b, pantrylaw03_small.l0 k l l (l.length : Int) (i : Int) = some b ∧ (b = true → l.length ≤ 70 ∧ ∀ f ∈ l.drop i, f.f0.size ≤ 200 ∧ f.f1.size ≤ 1100) := by
  intro d
  induction d with
  | zero =>
    intro i k hi hk
    obtain ⟨k, rfl⟩ : ∃ j, k = j + 1 := ⟨k - 1, by omega⟩
    simp only [pantrylaw03_small.l0]
    rw [if_neg (by omega)]
    refine ⟨_, rfl, fun h => ?_⟩
    have := of_decide_eq_true h
    rw [List.drop_of_length_le (by omega)]
    exact ⟨by omega, fun f hf => by cases hf⟩
  | succ d ih =>
    intro i k hi hk
    obtain ⟨k, rfl⟩ : ∃ j, k = j + 1 := ⟨k - 1, by omega⟩
    have hlt : i < l.length := by omega
    simp only [pantrylaw03_small.l0]
    rw [if_pos (by omega), if_pos (by omega), if_pos (by omega), rd39 l i hlt]
    by_cases h1 : ((l[i].f0).size : Int) > 200
    · rw [if_pos h1]; exact ⟨false, rfl, fun h => by cases h⟩
    · rw [if_neg h1]
      by_cases h2 : ((l[i].f1).size : Int) > 1100
      · rw [if_pos h2]; exact ⟨false, rfl, fun h => by cases h⟩
      · rw [if_neg h2, w64n (by omega) (by omega)]
        obtain ⟨b, hb, hs⟩ := ih (i + 1) k (by omega) (by omega)
        refine ⟨b, hb, fun h => ?_⟩
        obtain ⟨h3, h4⟩ := hs h
        refine ⟨h3, fun f hf => ?_⟩
        rw [List.drop_eq_getElem_cons hlt] at hf
        rcases List.mem_cons.1 hf with rfl | hf
        · exact ⟨by omega, by omega⟩
        · exact h4 f hf
theorem small_eval (l : List S39) (hl : l.length ≤ 9223372036854775807) (k : Nat) (hk : l.length < k) : ∃ b, pantrylaw03_small.f k l = some b ∧ (b = true → SmallF l) := by
  obtain ⟨b, hb, hs⟩ := small_l0 l hl l.length 0 k (by omega) hk
  exact ⟨b, hb, fun h => by simpa [SmallF] using hs h⟩

theorem rd36 (l : List S36) (i : Nat) (h : i < l.length) : rd_T36 l (i : Int) = l[i] := by simp [rd_T36, h]
def conv (f : S39) : S36 := ⟨f.f0, f.f1⟩
theorem conv_inj {f g : S39} (h : conv f = conv g) : f = g := by
  cases f; cases g
  simp only [conv, S36.mk.injEq] at h
  rw [h.1, h.2]
theorem made_l0 (l : List S39) (hl : l.length < 4398046511104) : ∀ (d i : Nat) (acc : List S36) (k : Nat), i + d = l.length → acc.length ≤ i → d < k →
    pantrymade_Fields.l0 k acc l (l.length : Int) (i : Int) = some (acc ++ (l.drop i).map conv) := by
  intro d
  induction d with
  | zero =>
    intro i acc k hi ha hk
    obtain ⟨k, rfl⟩ : ∃ j, k = j + 1 := ⟨k - 1, by omega⟩
    simp only [pantrymade_Fields.l0]
    rw [if_neg (by omega), List.drop_of_length_le (by omega)]
    simp
  | succ d ih =>
    intro i acc k hi ha hk
    obtain ⟨k, rfl⟩ : ∃ j, k = j + 1 := ⟨k - 1, by omega⟩
    have hlt : i < l.length := by omega
    simp only [pantrymade_Fields.l0]
    rw [if_pos (by omega), if_pos (by omega), if_pos (by omega), if_pos (by omega), rd39 l i hlt, w64n (by omega) (by omega)]
    have := ih (i + 1) (acc ++ [conv l[i]]) k (by omega) (by simp; omega) (by omega)
    rw [show ((i + 1 : Nat) : Int) = (i : Int) + 1 by omega] at this
    rw [List.drop_eq_getElem_cons hlt, List.map_cons, ← List.singleton_append (x := conv l[i]), ← List.append_assoc]
    exact this
theorem made_eval (l : List S39) (hl : l.length < 4398046511104) (k : Nat) (hk : l.length < k) : pantrymade_Fields.f k l = some (l.map conv) := by
  unfold pantrymade_Fields.f
  have := made_l0 l hl l.length 0 [] k (by omega) (by simp) hk
  simpa using this

/-! ## All, Get, Same -/
def allV (n : ByteArray) (l : List S39) : List ByteArray := (l.filter (isOf [n])).map (·.f1)
theorem all_l0 (n : ByteArray) (l : List S39) (hn : n.size ≤ 140737488351232) (hl : ∀ x ∈ l, x.f0.size ≤ 140737488351232) (hlen : l.length < 4398046511104) :
    ∀ (d i : Nat) (acc : List ByteArray) (k : Nat), i + d = l.length → acc.length ≤ i → d < k →
    field_List_All.l0 k n acc l (l.length : Int) (i : Int) = some (acc ++ allV n (l.drop i)) := by
  intro d
  induction d with
  | zero =>
    intro i acc k hi ha hk
    obtain ⟨k, rfl⟩ : ∃ j, k = j + 1 := ⟨k - 1, by omega⟩
    simp only [field_List_All.l0]
    rw [if_neg (by omega), List.drop_of_length_le (by omega)]
    simp [allV]
  | succ d ih =>
    intro i acc k hi ha hk
    obtain ⟨k, rfl⟩ : ∃ j, k = j + 1 := ⟨k - 1, by omega⟩
    have hlt : i < l.length := by omega
    simp only [field_List_All.l0]
    rw [if_pos (by omega), if_pos (by omega), if_pos (by omega), rd39 l i hlt]
    unfold field_Field_named.f
    rw [if_pos ⟨hl _ (List.getElem_mem hlt), by simp, by simpa using hn⟩]
    simp only [Option.bind_some]
    rw [List.drop_eq_getElem_cons hlt, w64n (by omega) (by omega)]
    by_cases hs : isOf [n] l[i] = true
    · have hs' : ([n].any fun n => sameB n l[i].f0) = true := hs
      rw [if_pos hs', if_pos (by omega)]
      have := ih (i + 1) (acc ++ [l[i].f1]) k (by omega) (by simp; omega) (by omega)
      rw [show ((i + 1 : Nat) : Int) = (i : Int) + 1 by omega] at this
      rw [this]
      unfold allV
      rw [List.filter_cons_of_pos hs, List.append_assoc]
      rfl
    · have hs' : ¬ ([n].any fun n => sameB n l[i].f0) = true := hs
      rw [if_neg hs']
      have := ih (i + 1) acc k (by omega) (by omega) (by omega)
      rw [show ((i + 1 : Nat) : Int) = (i : Int) + 1 by omega] at this
      rw [this]
      unfold allV
      rw [List.filter_cons_of_neg hs]
theorem all_eval (n : ByteArray) (l : List S39) (hn : n.size ≤ 140737488351232) (hl : ∀ x ∈ l, x.f0.size ≤ 140737488351232) (hlen : l.length < 4398046511104) (k : Nat) (hk : l.length < k) : field_List_All.f k l n = some (allV n l) := by
  unfold field_List_All.f
  have := all_l0 n l hn hl hlen l.length 0 [] k (by omega) (by simp) hk
  simpa using this
theorem inter_len (sep : List UInt8) (M : Nat) : ∀ (xs : List (List UInt8)), (∀ x ∈ xs, x.length ≤ M) → (sep.intercalate xs).length ≤ xs.length * (M + sep.length) := by
  intro xs
  induction xs with
  | nil => intro _; simp [List.intercalate]
  | cons x xs ih =>
    intro h
    have h1 := h x (by simp)
    have h2 := ih (fun y hy => h y (by simp [hy]))
    cases xs with
    | nil => simp [List.intercalate]; omega
    | cons y ys =>
      have e : sep.intercalate (x :: y :: ys) = x ++ (sep ++ sep.intercalate (y :: ys)) := by simp [List.intercalate]
      rw [e]
      simp only [List.length_append, List.length_cons, Nat.add_mul, Nat.one_mul] at *
      omega
theorem get_eval (n : ByteArray) (l : List S39) (hn : n.size ≤ 140737488351232) (hs : ∀ x ∈ l, x.f0.size ≤ 200 ∧ x.f1.size ≤ 1100) (hlen : l.length ≤ 1000000) (k : Nat) (hk : l.length < k) :
    field_List_Get.f k l n = some (⟨(joinB (allV n l) ⟨#[44, 32]⟩).toArray⟩, decide (0 < (allV n l).length)) := by
  unfold field_List_Get.f
  rw [all_eval n l hn (fun x hx => by have := (hs x hx).1; omega) (by omega) k hk]
  simp only [Option.bind_some]
  have hle : (allV n l).length ≤ l.length := by
    unfold allV
    rw [List.length_map]
    exact List.length_filter_le _ _
  have hok : joinOk (allV n l) ⟨#[44, 32]⟩ := by
    refine ⟨by omega, ?_⟩
    unfold joinB Lib.join
    have := inter_len (⟨#[44, 32]⟩ : ByteArray).data.toList 1100 ((allV n l).map (·.data.toList)) (fun x hx => by
      obtain ⟨y, hy, rfl⟩ := List.mem_map.1 hx
      unfold allV at hy
      obtain ⟨f, hf, rfl⟩ := List.mem_map.1 hy
      have := (hs f (List.mem_filter.1 hf).1).2
      simpa using this)
    rw [List.length_map] at this
    have h2 : ((⟨#[44, 32]⟩ : ByteArray).data.toList).length = 2 := rfl
    rw [h2] at this
    have : (allV n l).length * (1100 + 2) ≤ 1000000 * 1102 := Nat.mul_le_mul_right _ (by omega)
    omega
  unfold strings_Join.f
  rw [if_pos hok]
  simp only [Option.bind_some]
  congr 2
  rw [decide_eq_decide]
  omega

theorem same_l0 (a : List S36) (hb : a.length ≤ 1000000) : ∀ (d i k : Nat), i + d = a.length → d < k → pantryref03_Same.l0 k a a (i : Int) = some true := by
  intro d
  induction d with
  | zero =>
    intro i k hi hk
    obtain ⟨k, rfl⟩ : ∃ j, k = j + 1 := ⟨k - 1, by omega⟩
    simp only [pantryref03_Same.l0]
    rw [if_neg (by omega)]
  | succ d ih =>
    intro i k hi hk
    obtain ⟨k, rfl⟩ : ∃ j, k = j + 1 := ⟨k - 1, by omega⟩
    simp only [pantryref03_Same.l0]
    rw [if_pos (by omega), if_pos (by omega), if_pos (by omega), w64n (by omega) (by omega)]
    have := ih (i + 1) k (by omega) (by omega)
    rw [show ((i + 1 : Nat) : Int) = (i : Int) + 1 by omega] at this
    rw [if_neg (by simp), this]
theorem same_eval (a : List S36) (hb : a.length ≤ 1000000) (k : Nat) (hk : a.length < k) : pantryref03_Same.f k a a = some true := by
  unfold pantryref03_Same.f
  rw [if_pos rfl]
  exact same_l0 a hb a.length 0 k (by omega) hk

/-! ## With -/
theorem with_ok (l0 l1 : List S39) (s0 : SmallF l0) (s1 : SmallF l1) : withOk l0 l1 :=
  ⟨by have := s0.1; have := s1.1; omega, fun x h => by have := (s0.2 x h).1; omega, fun x h => by have := (s1.2 x h).1; omega⟩
theorem withAll_len (l1 : List S39) : ∀ l0 : List S39, (withAll l0 l1).length ≤ l0.length + l1.length := by
  induction l1 with
  | nil => intro l0; simp [withAll]
  | cons f l1 ih =>
    intro l0
    have h1 := withOne_len l0 f
    have h2 := ih (withOne l0 f)
    have e : withAll l0 (f :: l1) = withAll (withOne l0 f) l1 := rfl
    rw [e, List.length_cons]
    omega
theorem withAll_mem (l1 : List S39) : ∀ (l0 : List S39) (x : S39), x ∈ withAll l0 l1 → x ∈ l0 ∨ x ∈ l1 := by
  induction l1 with
  | nil => intro l0 x h; exact .inl h
  | cons f l1 ih =>
    intro l0 x h
    have e : withAll l0 (f :: l1) = withAll (withOne l0 f) l1 := rfl
    rw [e] at h
    rcases ih _ _ h with h | h
    · rcases withOne_mem _ _ _ h with h | rfl
      · exact .inl h
      · exact .inr (by simp)
    · exact .inr (by simp [h])

theorem sameB_refl (a : ByteArray) : sameB a a = true := by unfold sameB; simp
theorem sameB_comm (a b : ByteArray) : sameB a b = sameB b a := by
  unfold sameB
  rw [Bool.eq_iff_iff, beq_iff_eq, beq_iff_eq]
  exact eq_comm
theorem sameB_trans {a b c : ByteArray} (h1 : sameB a b = true) (h2 : sameB b c = true) : sameB a c = true := by
  unfold sameB at *
  rw [beq_iff_eq] at *
  rw [h1, h2]
def goW (f : S39) : Bool → List S39 → List S39
  | dn, [] => if dn = true then [] else [f]
  | dn, x :: l => if sameB f.f0 x.f0 = true then (if dn = true then goW f true l else f :: goW f true l) else x :: goW f dn l
theorem goW_true (f : S39) (l : List S39) : goW f true l = wout [f.f0] l := by
  induction l with
  | nil => rfl
  | cons x l ih =>
    unfold goW wout
    by_cases h : sameB f.f0 x.f0 = true
    · rw [if_pos h, if_pos rfl, List.filter_cons_of_neg (by simp [isOf, h]), ih]
      rfl
    · rw [if_neg h, List.filter_cons_of_pos (by simp [isOf, h]), ih]
      rfl
theorem goW_one (f : S39) (l : List S39) : goW f false l = withOne l f := by
  induction l with
  | nil => rfl
  | cons x l ih =>
    unfold goW
    by_cases h : sameB f.f0 x.f0 = true
    · rw [if_pos h, if_neg (by simp), goW_true]
      unfold withOne
      rw [if_pos (by simp [h]), List.findIdx_cons, h]
      rfl
    · rw [if_neg h, ih]
      have h' : sameB f.f0 x.f0 = false := by simpa using h
      unfold withOne
      rw [List.any_cons, h', Bool.false_or, List.findIdx_cons, h']
      by_cases ha : (l.any fun o => sameB f.f0 o.f0) = true
      · rw [if_pos ha, if_pos ha]
        rfl
      · rw [if_neg ha, if_neg ha]
        rfl

/-! ## FieldAgain -/
theorem wout_idem (n : ByteArray) (l : List S39) : wout [n] (wout [n] l) = wout [n] l := by
  unfold wout
  rw [List.filter_filter]
  apply List.filter_congr
  intro x _
  simp
theorem goW_idem (f : S39) (l : List S39) : goW f false (goW f false l) = goW f false l := by
  induction l with
  | nil =>
    have e : goW f false [] = [f] := rfl
    rw [e, goW, if_pos (sameB_refl _)]
    rfl
  | cons x l ih =>
    by_cases h : sameB f.f0 x.f0 = true
    · have e : goW f false (x :: l) = f :: goW f true l := by rw [goW, if_pos h]; rfl
      rw [e, goW, if_pos (sameB_refl _), if_neg (by simp), goW_true, goW_true, wout_idem]
    · have e : goW f false (x :: l) = x :: goW f false l := by rw [goW, if_neg h]
      rw [e, goW, if_neg h, ih]
theorem wout_goW (f : S39) (l : List S39) : ∀ dn, wout [f.f0] (goW f dn l) = wout [f.f0] l := by
  have hf : ∀ l, wout [f.f0] (f :: l) = wout [f.f0] l := fun l => List.filter_cons_of_neg (by simp [isOf, sameB_refl])
  induction l with
  | nil =>
    intro dn
    cases dn with
    | true => rfl
    | false => exact hf []
  | cons x l ih =>
    intro dn
    rw [goW]
    by_cases h : sameB f.f0 x.f0 = true
    · have e : wout [f.f0] (x :: l) = wout [f.f0] l := List.filter_cons_of_neg (by simp [isOf, h])
      rw [if_pos h, e]
      cases dn with
      | true => rw [if_pos rfl, ih true]
      | false => rw [if_neg (by simp), hf, ih true]
    · have e : ∀ l, wout [f.f0] (x :: l) = x :: wout [f.f0] l := fun l => List.filter_cons_of_pos (by simp [isOf, h])
      rw [if_neg h, e, e, ih dn]
theorem again_same (x y : List S39) (hx : x.length ≤ 1000) (e : x = y) (k : Nat) (hk : 2000 < k) : pantrylaw03_FieldAgain_1.f k x y = some true := by
  subst e
  unfold pantrylaw03_FieldAgain_1.f
  rw [made_eval x (by omega) k (by omega)]
  simp only [Option.bind_some]
  rw [same_eval _ (by rw [List.length_map]; omega) k (by rw [List.length_map]; omega)]
  rfl
theorem law_FieldAgain (l0 : List S39) (a b : ByteArray) (h0 : l0.length ≤ 4398046510976) : ∃ k, pantrylaw03_FieldAgain.f k l0 a b = some true := by
  have hbig : l0.length + 1 < 4398046511104 := by omega
  obtain ⟨K, hK⟩ : ∃ K, l0.length + 20000 ≤ K := ⟨_, Nat.le_refl _⟩
  refine ⟨K, ?_⟩
  unfold pantrylaw03_FieldAgain.f
  rw [anchor_ok _ (by omega)]
  simp only [Option.bind_some]
  rw [if_pos trivial, if_pos (by simpa [Nat.add_comm] using hbig)]
  obtain ⟨f, hf⟩ : ∃ f : S39, f = ⟨a, b⟩ := ⟨_, rfl⟩
  rw [← hf]
  obtain ⟨bb, hb, hs⟩ := small_eval ([f] ++ l0) (by simp; omega) K (by simp; omega)
  rw [hb]
  simp only [Option.bind_some]
  cases bb with
  | false => rw [if_neg (by simp)]
  | true =>
    rw [if_pos rfl]
    have s1 := hs rfl
    have sf : SmallF [f] := ⟨by simp, fun x hx => s1.2 x (List.mem_append.2 (.inl hx))⟩
    have s0 : SmallF l0 := ⟨by have := s1.1; simp at this; omega, fun x hx => s1.2 x (List.mem_append.2 (.inr hx))⟩
    have z0 := s0.1
    have hfa : f.f0 = a := by rw [hf]
    have hfs := (sf.2 f (by simp)).1
    have hA : withAll l0 [f] = withOne l0 f := rfl
    have hla := withOne_len l0 f
    have ma : ∀ x ∈ withOne l0 f, x.f0.size ≤ 200 ∧ x.f1.size ≤ 1100 := fun x hx => by
      rcases withOne_mem _ _ _ hx with h | rfl
      · exact s0.2 x h
      · exact sf.2 _ (by simp)
    have wi : ∀ (l : List S39), l.length ≤ 1000 → (∀ x ∈ l, x.f0.size ≤ 200 ∧ x.f1.size ≤ 1100) → field_List_With.f l [f] = some (withOne l f) := fun l hl hm => by
      unfold field_List_With.f
      rw [if_pos ⟨by simp; omega, fun x h => by have := (hm x h).1; omega, fun x h => by obtain rfl := List.mem_singleton.1 h; omega⟩]
      rfl
    have wo : ∀ (l : List S39), l.length ≤ 1000 → (∀ x ∈ l, x.f0.size ≤ 200 ∧ x.f1.size ≤ 1100) → field_List_Without.f K l [a] = some (wout [a] l) := fun l hl hm => wout_f [a] l (by simp) (by rw [← hfa]; simpa using (by omega : f.f0.size ≤ 140737488351232)) (fun x h => by have := (hm x h).1; omega) (by omega) K (by omega)
    have mb : ∀ x ∈ wout [a] l0, x.f0.size ≤ 200 ∧ x.f1.size ≤ 1100 := fun x hx => s0.2 x (List.mem_filter.1 hx).1
    have hlb : (wout [a] l0).length ≤ l0.length := List.length_filter_le _ _
    have e1 : withOne (withOne l0 f) f = withOne l0 f := by rw [← goW_one, ← goW_one, goW_idem]
    have e2 : wout [a] (withOne l0 f) = wout [a] l0 := by rw [← goW_one, ← hfa, wout_goW]
    rw [wi l0 (by omega) s0.2]
    simp only [Option.bind_some]
    rw [wo l0 (by omega) s0.2]
    simp only [Option.bind_some]
    rw [wi _ (by omega) ma, e1]
    simp only [Option.bind_some]
    rw [again_same _ _ (by omega) rfl K (by omega)]
    simp only [Option.bind_some]
    rw [if_pos trivial, wo _ (by omega) mb, wout_idem]
    simp only [Option.bind_some]
    rw [again_same _ _ (by omega) rfl K (by omega)]
    simp only [Option.bind_some]
    rw [if_pos trivial, wo _ (by omega) ma, e2]
    simp only [Option.bind_some]
    rw [again_same _ _ (by omega) rfl K (by omega)]
    rfl

end Go.Proofs.YtmncflihmigdmaaDoor.PAll
